import PyProof.Rows.All
import Wide.All
import OpenK.AllK
import Wide.FinOn
import HandS.ForMost
import HandS.ForExc
import HandS.Lambda
import HandS.IsInst
import HandS.SortInts
import HandS.Style
import HandS.ExcInit
import HandS.TryMany
import HandS.More
import HandS.Conv
import HandS.ExcCtx
import HandS.HotCalls
import HandS.ExcIs
import HandS.ExcField
import HandS.TupAny
import HandS.Deep
import HandS.WordsDict
import HandS.Zip
import KE.DataMinMax
import KE.SortData
import PySem.Challenge.RW_cuelight_k16_written_and_read
set_option Elab.async false
set_option linter.all false
set_option maxRecDepth 100000
set_option maxHeartbeats 1000000
/-! # CL: symbolic cells over the abstract heap -/
namespace CL
open PySem L2
/-- plain data -/
inductive D where
  | non | bl (b : Bool) | int (i : Int) | str (s : Str) | tup (ds : List D) | lst (ds : List D)
  | dct (ks : List Key) (ds : List D) | obj (c : Nat) (ds : List D) | scr (ns : List Int)
/-- what a slot holds; ali: the object of that slot -/
inductive Cell where
  | un | fz (d : D) | lst (ds : List D) | dct (ks : List Key) (ds : List D) | obj (c : Nat) (cs : List Cell) | lsc (cs : List Cell) | ali (i : Nat)
  | dfz (ks : List Key) (ds : List D) | exo (a d : Addr) (c : Nat) (ds : List D)
abbrev Env := List Cell
/-- the attributes of the program's classes, in the order in which they are stored -/
def fldN : Nat → List Str
  | 0 => ["needs", "roots", "wires"]
  | 1 => ["net", "kept", "used"]
  | 2 => ["net", "begin", "dark", "first", "far", "by"]
  | 3 => ["net", "state", "told"]
  | _ => []
/-- the fields of the program's exceptions -/
def xfldN : Nat → List Str
  | 10 => ["why", "at"]
  | 11 => ["shown", "why"]
  | 14 => ["states"]
  | 15 => ["row"]
  | _ => []
structure Tabs where
  K : PySem.W.Frag
  cls : Nat → Addr
  tabs : List (Addr × Str)
def emp : Hp := fun _ => none
def sg (p : Addr) (o : HO) : Hp := fun b => if b = p then some o else none
def jn (a b : Hp) : Hp := fun x => (a x).or (b x)
def Dis (a b : Hp) : Prop := ∀ x, a x = none ∨ b x = none
def Le (a b : Hp) : Prop := ∀ x o, a x = some o → b x = some o
mutual
def Rep (T : Tabs) (F : Hp) : D → V → Prop
  | .non, v => v = .non
  | .bl b, v => v = .bl b
  | .int i, v => v = .int i
  | .str s, v => v = .str s
  | .tup ds, v => ∃ p xs, v = .ref p ∧ F p = some (.tup xs) ∧ Reps T F ds xs
  | .lst ds, v => ∃ p xs, v = .ref p ∧ F p = some (.lst xs) ∧ Reps T F ds xs
  | .dct ks ds, v => ∃ p xs, v = .ref p ∧ F p = some (.dK (ks.zip xs)) ∧ ks.length = ds.length ∧ Reps T F ds xs
  | .obj c ds, v => ∃ p dx xs, v = .ref p ∧ F p = some (.ins (T.cls c) dx ((fldN c).zip xs)) ∧ (fldN c).length = ds.length ∧ Reps T F ds xs
  | .scr ns, v => ∃ p, v = .ref p ∧ SqL T.K F p (ns.map V.int)
def Reps (T : Tabs) (F : Hp) : List D → List V → Prop
  | [], xs => xs = []
  | d :: ds, xs => ∃ x r, xs = x :: r ∧ Rep T F d x ∧ Reps T F ds r
end
mutual
def CO (T : Tabs) (F : Hp) : Cell → V → Hp → Prop
  | .un, _, h => h = emp
  | .fz d, v, h => Rep T F d v ∧ h = emp
  | .lst ds, v, h => ∃ p xs, v = .ref p ∧ h = sg p (.lst xs) ∧ Reps T F ds xs
  | .dct ks ds, v, h => ∃ p xs, v = .ref p ∧ ks.length = ds.length ∧ h = sg p (.dK (ks.zip xs)) ∧ Reps T F ds xs
  | .obj c cs, v, h => ∃ p dx xs h1, v = .ref p ∧ p ≠ dx ∧ h1 p = none ∧ h1 dx = none ∧ cs.length ≤ (fldN c).length ∧
      h = jn (sg p (.ins (T.cls c) dx (((fldN c).take cs.length).zip xs))) (jn (sg dx (.own p)) h1) ∧ COs T F cs xs h1
  | .lsc cs, v, h => ∃ p xs h1, v = .ref p ∧ h1 p = none ∧ h = jn (sg p (.lst xs)) h1 ∧ COs T F cs xs h1
  | .ali _, _, _ => False
  | .dfz ks ds, v, h => ∃ p xs od, v = .ref p ∧ F p = some (.frz od (.dK (ks.zip xs))) ∧ ks.length = ds.length ∧ Reps T F ds xs ∧ h = emp
  | .exo a d c ds, v, h => v = .ref a ∧ ((xfldN c = [] ∧ ds = [] ∧ h = emp) ∨ ∃ xs, xfldN c ≠ [] ∧ (xfldN c).length = ds.length ∧ h = sg d (.xd ((xfldN c).zip xs)) ∧ Reps T F ds xs)
def COs (T : Tabs) (F : Hp) : List Cell → List V → Hp → Prop
  | [], xs, h => xs = [] ∧ h = emp
  | c :: cs, xs, h => ∃ x r h1 h2, xs = x :: r ∧ Dis h1 h2 ∧ h = jn h1 h2 ∧ CO T F c x h1 ∧ COs T F cs r h2
end
/-! ### partial heaps -/
section
variable {a b c d e f g : Hp} {p q : Addr} {o u : HO}
theorem jn_some (h : a p = some o) : jn a b p = some o := by simp [jn, h]
theorem jn_none (h : a p = none) : jn a b p = b p := by simp [jn, h]
theorem jn_right (dd : Dis a b) (h : b p = some o) : jn a b p = some o := by
  rcases dd p with x | x
  · rw [jn_none x, h]
  · rw [h] at x; cases x
theorem jn_nn (h : a p = none) (h' : b p = none) : jn a b p = none := by rw [jn_none h, h']
theorem jn_nl (h : jn a b p = none) : a p = none := by
  cases x : a p with
  | none => rfl
  | some o => rw [jn_some x] at h; cases h
theorem jn_nr (h : jn a b p = none) : b p = none := by rw [jn_none (jn_nl h)] at h; exact h
theorem jn_cases (h : jn a b p = some o) : a p = some o ∨ b p = some o := by
  cases x : a p with
  | none => rw [jn_none x] at h; exact .inr h
  | some u => rw [jn_some x] at h; exact .inl h
theorem jn_emp : jn a emp = a := by funext x; simp [jn, emp]
theorem emp_jn : jn emp a = a := by funext x; simp [jn, emp]
theorem jn_assoc : jn (jn a b) c = jn a (jn b c) := by funext x; simp [jn, Option.or_assoc]
theorem Dis.symm (h : Dis a b) : Dis b a := fun x => (h x).symm
theorem jn_comm (h : Dis a b) : jn a b = jn b a := by
  funext x
  rcases h x with y | y
  · rw [jn_none y]; unfold jn; rw [y]; cases b x <;> rfl
  · rw [jn_none (a := b) y]; unfold jn; rw [y]; cases a x <;> rfl
theorem Dis.empr : Dis a emp := fun _ => .inr rfl
theorem Dis.empl : Dis emp a := fun _ => .inl rfl
theorem Dis.l (h : Dis a (jn b c)) : Dis a b := fun x => (h x).imp id jn_nl
theorem Dis.r (h : Dis a (jn b c)) : Dis a c := fun x => (h x).imp id jn_nr
theorem Dis.l' (h : Dis (jn a b) c) : Dis a c := h.symm.l.symm
theorem Dis.r' (h : Dis (jn a b) c) : Dis b c := h.symm.r.symm
theorem Dis.both (h : Dis a b) (h' : Dis a c) : Dis a (jn b c) := fun x => by
  rcases h x with y | y
  · exact .inl y
  · rcases h' x with z | z
    · exact .inl z
    · exact .inr (jn_nn y z)
theorem Dis.both' (h : Dis a c) (h' : Dis b c) : Dis (jn a b) c := (h.symm.both h'.symm).symm
theorem Dis.single (h : a p = none) : Dis a (sg p o) := fun x => by
  by_cases e : x = p
  · subst e; exact .inl h
  · exact .inr (by simp [sg, e])
theorem Dis.single' (h : a p = none) : Dis (sg p o) a := (Dis.single h).symm
theorem Dis.at (h : Dis (sg p o) a) : a p = none := by
  rcases h p with x | x
  · simp [sg] at x
  · exact x
theorem Dis.at' (h : Dis a (sg p o)) : a p = none := h.symm.at
theorem sg_at : sg p o p = some o := by simp [sg]
theorem sg_ne (h : q ≠ p) : sg p o q = none := by simp [sg, h]
theorem sg_some (h : sg p o q = some u) : q = p ∧ u = o := by
  unfold sg at h
  split at h
  · cases h; exact ⟨by assumption, rfl⟩
  · cases h
theorem Le.refl : Le a a := fun _ _ h => h
theorem Le.trans (h : Le a b) (h' : Le b c) : Le a c := fun x o e => h' x o (h x o e)
theorem Le.left : Le a (jn a b) := fun _ _ h => jn_some h
theorem Le.right (dd : Dis a b) : Le b (jn a b) := fun _ _ h => jn_right dd h
theorem Le.ofEmp : Le emp a := fun _ _ h => nomatch h
theorem Le.join (h : Le a c) (h' : Le b c) : Le (jn a b) c := fun x o e => (jn_cases e).elim (h x o) (h' x o)
theorem Le.single (h : a p = some o) : Le (sg p o) a := fun x u e => by obtain ⟨rfl, rfl⟩ := sg_some e; exact h
theorem Le.non (h : Le a b) (e : b p = none) : a p = none := by
  cases x : a p with
  | none => rfl
  | some o => rw [h p o x] at e; cases e
theorem Le.joinM (h : Le a c) (h' : Le b d) (dd : Dis c d) : Le (jn a b) (jn c d) := Le.join (h.trans Le.left) (h'.trans (Le.right dd))
theorem jn4 (h1 : Dis b c) : jn (jn a b) (jn c d) = jn (jn a c) (jn b d) := by
  rw [jn_assoc, jn_assoc, ← jn_assoc (a := b), ← jn_assoc (a := c), jn_comm h1]
theorem jn_swap (h : Dis b c) : jn (jn a b) c = jn (jn a c) b := by rw [jn_assoc, jn_comm h, jn_assoc]
theorem jn_left (h : Dis a b) : jn a (jn b c) = jn b (jn a c) := by rw [← jn_assoc, jn_comm h, jn_assoc]
theorem upd_le (h : a p = none) : Le a (upd a p o) := fun x u e => by rw [upd_ne (ne_of_none e h)]; exact e
theorem upd_jn (h : a p = none) : upd a p o = jn a (sg p o) := by
  funext x
  unfold upd jn sg
  by_cases e : x = p
  · subst e; simp [h]
  · simp [e]
end
/-! ### what stands for what stays -/
section
variable {T : Tabs} {F G : Hp}
theorem SqL.le {K : PySem.W.Frag} (h : Le F G) {p : Addr} {xs : List V} (s : SqL K F p xs) : SqL K G p xs := s.elim (fun z => .inl (z.elim (fun y => .inl (h _ _ y)) fun ⟨o, y⟩ => .inr ⟨o, h _ _ y⟩)) .inr
theorem SqT.le {K : PySem.W.Frag} (h : Le F G) {p : Addr} {xs : List V} (s : SqT K F p xs) : SqT K G p xs := s.elim (fun z => .inl (z.elim (fun y => .inl (h _ _ y)) fun ⟨o, y⟩ => .inr ⟨o, h _ _ y⟩)) .inr
mutual
theorem Rep.mono (h : Le F G) : ∀ {d : D} {v : V}, Rep T F d v → Rep T G d v
  | .non, _, r => r
  | .bl _, _, r => r
  | .int _, _, r => r
  | .str _, _, r => r
  | .tup _, _, ⟨p, xs, e, s, r⟩ => ⟨p, xs, e, h _ _ s, Reps.mono h r⟩
  | .lst _, _, ⟨p, xs, e, s, r⟩ => ⟨p, xs, e, h _ _ s, Reps.mono h r⟩
  | .dct _ _, _, ⟨p, xs, e, s, l, r⟩ => ⟨p, xs, e, h _ _ s, l, Reps.mono h r⟩
  | .obj _ _, _, ⟨p, dx, xs, e, s, l, r⟩ => ⟨p, dx, xs, e, h _ _ s, l, Reps.mono h r⟩
  | .scr _, _, ⟨p, e, s⟩ => ⟨p, e, SqL.le h s⟩
theorem Reps.mono (h : Le F G) : ∀ {ds : List D} {xs : List V}, Reps T F ds xs → Reps T G ds xs
  | [], _, r => r
  | _ :: _, _, ⟨x, r, e, a, b⟩ => ⟨x, r, e, Rep.mono h a, Reps.mono h b⟩
end
mutual
theorem CO.mono (l : Le F G) : ∀ {c : Cell} {v : V} {h : Hp}, CO T F c v h → CO T G c v h
  | .un, _, _, r => r
  | .fz _, _, _, r => ⟨r.1.mono l, r.2⟩
  | .lst _, _, _, ⟨p, xs, e, z, r⟩ => ⟨p, xs, e, z, r.mono l⟩
  | .dct _ _, _, _, ⟨p, xs, e, n, z, r⟩ => ⟨p, xs, e, n, z, r.mono l⟩
  | .obj _ _, _, _, ⟨p, dx, xs, h1, e, n1, n2, n3, n4, z, r⟩ => ⟨p, dx, xs, h1, e, n1, n2, n3, n4, z, COs.mono l r⟩
  | .lsc _, _, _, ⟨p, xs, h1, e, n, z, r⟩ => ⟨p, xs, h1, e, n, z, COs.mono l r⟩
  | .ali _, _, _, r => r
  | .dfz _ _, _, _, ⟨p, xs, od, e, s, l1, r, z⟩ => ⟨p, xs, od, e, l _ _ s, l1, r.mono l, z⟩
  | .exo _ _ _ _, _, _, ⟨e, z⟩ => ⟨e, z.imp id fun ⟨xs, n, l1, z, r⟩ => ⟨xs, n, l1, z, r.mono l⟩⟩
theorem COs.mono (l : Le F G) : ∀ {cs : List Cell} {vs : List V} {h : Hp}, COs T F cs vs h → COs T G cs vs h
  | [], _, _, r => r
  | _ :: _, _, _, ⟨x, r, h1, h2, e, dd, z, a, b⟩ => ⟨x, r, h1, h2, e, dd, z, CO.mono l a, COs.mono l b⟩
end
theorem Reps.length : ∀ {ds : List D} {xs : List V}, Reps T F ds xs → xs.length = ds.length
  | [], _, r => by cases r; rfl
  | _ :: _, _, ⟨_, _, e, _, b⟩ => by subst e; simp [b.length]
theorem COs.length : ∀ {cs : List Cell} {xs : List V} {h : Hp}, COs T F cs xs h → xs.length = cs.length
  | [], _, _, r => by cases r.1; rfl
  | _ :: _, _, _, ⟨_, _, _, _, e, _, _, _, b⟩ => by subst e; simp [b.length]
theorem Reps.get : ∀ {ds : List D} {xs : List V} {i : Nat} {d : D}, Reps T F ds xs → ds[i]? = some d → ∃ x, xs[i]? = some x ∧ Rep T F d x
  | [], _, _, _, _, e => by simp at e
  | _ :: _, _, 0, _, ⟨x, r, e, a, _⟩, z => by subst e; simp at z; subst z; exact ⟨x, rfl, a⟩
  | _ :: _, _, i + 1, _, ⟨x, r, e, _, b⟩, z => by subst e; obtain ⟨y, h1, h2⟩ := Reps.get (i := i) b (by simpa using z); exact ⟨y, by simpa using h1, h2⟩
theorem Reps.get' : ∀ {ds : List D} {xs : List V} {i : Nat} {x : V}, Reps T F ds xs → xs[i]? = some x → ∃ d, ds[i]? = some d ∧ Rep T F d x
  | [], _, _, _, r, e => by cases r; simp at e
  | d :: _, _, 0, _, ⟨x, r, e, a, _⟩, z => by subst e; simp at z; subst z; exact ⟨d, rfl, a⟩
  | _ :: _, _, i + 1, _, ⟨x, r, e, _, b⟩, z => by subst e; obtain ⟨y, h1, h2⟩ := Reps.get' (i := i) b (by simpa using z); exact ⟨y, by simpa using h1, h2⟩
theorem Reps.app : ∀ {ds es : List D} {xs ys : List V}, Reps T F ds xs → Reps T F es ys → Reps T F (ds ++ es) (xs ++ ys)
  | [], _, _, _, r, s => by cases r; exact s
  | _ :: _, _, _, _, ⟨x, r, e, a, b⟩, s => by subst e; exact ⟨x, _, rfl, a, b.app s⟩
theorem Reps.take : ∀ {ds : List D} {xs : List V} (n : Nat), Reps T F ds xs → Reps T F (ds.take n) (xs.take n)
  | _, _, 0, _ => by simp [Reps]
  | [], _, _ + 1, r => by cases r; simp [Reps]
  | _ :: _, _, n + 1, ⟨x, r, e, a, b⟩ => by subst e; exact ⟨x, _, rfl, a, b.take n⟩
theorem Reps.drop : ∀ {ds : List D} {xs : List V} (n : Nat), Reps T F ds xs → Reps T F (ds.drop n) (xs.drop n)
  | _, _, 0, r => r
  | [], _, _ + 1, r => by cases r; simp [Reps]
  | _ :: _, _, n + 1, ⟨x, r, e, _, b⟩ => by subst e; exact b.drop n
theorem Reps.one {d : D} {x : V} (h : Rep T F d x) : Reps T F [d] [x] := ⟨x, [], rfl, h, rfl⟩
theorem Reps.snoc {ds : List D} {xs : List V} {d : D} {x : V} (r : Reps T F ds xs) (h : Rep T F d x) : Reps T F (ds ++ [d]) (xs ++ [x]) := r.app (.one h)
theorem Reps.rev : ∀ {ds : List D} {xs : List V}, Reps T F ds xs → Reps T F ds.reverse xs.reverse
  | [], _, r => by cases r; simp [Reps]
  | _ :: _, _, ⟨x, r, e, a, b⟩ => by subst e; rw [List.reverse_cons, List.reverse_cons]; exact b.rev.snoc a
theorem Reps.dropLast : ∀ {ds : List D} {xs : List V}, Reps T F ds xs → Reps T F ds.dropLast xs.dropLast := fun {ds xs} r => by
  rw [List.dropLast_eq_take, List.dropLast_eq_take, r.length]; exact r.take _
theorem Reps.erase : ∀ {ds : List D} {xs : List V} (i : Nat), Reps T F ds xs → Reps T F (ds.eraseIdx i) (xs.eraseIdx i) := fun {ds xs} i r => by
  rw [List.eraseIdx_eq_take_drop_succ, List.eraseIdx_eq_take_drop_succ]; exact (r.take _).app (r.drop _)
theorem Reps.ints : ∀ (ns : List Int), Reps T F (ns.map D.int) (ns.map V.int)
  | [] => rfl
  | _ :: r => ⟨_, _, rfl, rfl, Reps.ints r⟩
theorem Reps.ofInts : ∀ {ns : List Int} {xs : List V}, Reps T F (ns.map D.int) xs → xs = ns.map V.int
  | [], _, r => r
  | _ :: _, _, ⟨_, _, e, a, b⟩ => by subst e; cases a; rw [Reps.ofInts b]; rfl
theorem Reps.two {d e : D} {xs : List V} (r : Reps T F [d, e] xs) : ∃ x y, xs = [x, y] ∧ Rep T F d x ∧ Rep T F e y := by
  obtain ⟨x, _, rfl, a, y, _, rfl, b, rfl⟩ := r
  exact ⟨x, y, rfl, a, b⟩
theorem Reps.uno {d : D} {xs : List V} (r : Reps T F [d] xs) : ∃ x, xs = [x] ∧ Rep T F d x := by
  obtain ⟨x, _, rfl, a, rfl⟩ := r
  exact ⟨x, rfl, a⟩
end
/-! ### the state: F frozen, h owned, both in H -/
structure Good (T : Tabs) (F h H : Hp) : Prop where
  f : Le F H
  o : Le h H
  d : Dis F h
  nt : ∀ b ps, F b ≠ some (.tbl ps) ∧ h b ≠ some (.tbl ps)
  tb : ∀ p ∈ T.tabs, F p.1 = none ∧ h p.1 = none ∧ ∃ ps, H p.1 = some (.tbl ps) ∧ TriplesOk ps.toList ∧ ∀ pos cv, codeAmong pos ps.toList = some cv → ∃ c, cv = .ref c ∧ F c = some (LamX.CodeO c p.2)
/-- an object is kept, a table up to what is added -/
def Kp (o : HO) (u : Option HO) : Prop := u = some o ∨ ∃ ps more, o = .tbl ps ∧ u = some (.tbl (ps ++ more))
theorem Kp.nt {o : HO} {u : Option HO} (k : Kp o u) (n : ∀ ps, o ≠ .tbl ps) : u = some o := k.elim id fun ⟨ps, _, e, _⟩ => absurd e (n ps)
structure Step (F h H F' h' H' : Hp) : Prop where
  le : Le F F'
  fr : ∀ b o, H b = some o → h b = none → Kp o (H' b)
  nw : ∀ b, F b = none → h b = none → (F' b ≠ none ∨ h' b ≠ none) → H b = none
section
variable {T : Tabs} {F F' F'' h h' h'' h1 h2 H H' H'' : Hp} {p : Addr} {o o' : HO}
theorem Step.refl : Step F h H F h H := ⟨Le.refl, fun _ _ e _ => .inl e, fun b a c z => z.elim (fun y => absurd a y) fun y => absurd c y⟩
theorem Step.trans (a : Step F h H F' h' H') (dd : Dis F' h') (b : Step F' h' H' F'' h'' H'') : Step F h H F'' h'' H'' where
  le := a.le.trans b.le
  fr := fun x o e n => by
    have k := a.fr x o e n
    have hn : h' x = none := by
      cases q : h' x with
      | none => rfl
      | some u =>
        have fx : F x = none := by
          cases z : F x with
          | none => rfl
          | some w =>
            have y := a.le _ _ z
            rcases dd x with r | r
            · rw [r] at y; cases y
            · rw [r] at q; cases q
        have z := a.nw x fx n (.inr (by rw [q]; exact fun y => nomatch y))
        rw [z] at e; cases e
    rcases k with k | ⟨ps, m, e1, k⟩
    · exact b.fr x o k hn
    · subst e1
      rcases b.fr x _ k hn with k2 | ⟨ps2, m2, e2, k2⟩
      · exact .inr ⟨ps, m, rfl, k2⟩
      · cases e2
        exact .inr ⟨ps, m ++ m2, rfl, by rw [k2, Array.append_assoc]⟩
  nw := fun x f n z => by
    by_cases q : F' x = none ∧ h' x = none
    · have y := b.nw x q.1 q.2 z
      cases e : H x with
      | none => rfl
      | some o =>
        rcases a.fr x o e n with k | ⟨ps, m, e1, k⟩
        · rw [k] at y; cases y
        · rw [k] at y; cases y
    · refine a.nw x f n ?_
      by_cases q1 : F' x = none
      · exact .inr fun q2 => q ⟨q1, q2⟩
      · exact .inl q1
theorem Step.to (a : Step F h H F' h' H') (dd : Dis F' h') (b : Good T F'' h'' H'' ∧ Step F' h' H' F'' h'' H'') : Good T F'' h'' H'' ∧ Step F h H F'' h'' H'' := ⟨b.1, a.trans dd b.2⟩
/-- what is forgotten -/
theorem Good.drop (g : Good T F (jn h1 h2) H) : Good T F h1 H ∧ Step F (jn h1 h2) H F h1 H := by
  refine ⟨⟨g.f, Le.left.trans g.o, g.d.l, fun b ps => ⟨(g.nt b ps).1, fun e => (g.nt b ps).2 (jn_some e)⟩, fun p hp => ?_⟩, ⟨Le.refl, fun _ _ e _ => .inl e, fun b f n z => ?_⟩⟩
  · obtain ⟨a, b, c⟩ := g.tb p hp
    exact ⟨a, jn_nl b, c⟩
  · rcases z with z | z
    · exact absurd f z
    · exact absurd (jn_nl n) z
/-- what is frozen -/
theorem Good.freeze (g : Good T F (jn h1 h2) H) (dd : Dis h1 h2) : Good T (jn F h1) h2 H ∧ Step F (jn h1 h2) H (jn F h1) h2 H := by
  refine ⟨⟨Le.join g.f (Le.left.trans g.o), (Le.right dd).trans g.o, Dis.both' g.d.r dd, fun b ps => ⟨fun e => ?_, fun e => (g.nt b ps).2 (jn_right dd e)⟩, fun p hp => ?_⟩, ⟨Le.left, fun _ _ e _ => .inl e, fun b f n z => ?_⟩⟩
  · rcases jn_cases e with e | e
    · exact (g.nt b ps).1 e
    · exact (g.nt b ps).2 (jn_some e)
  · obtain ⟨a, b, ps, c1, c2, c3⟩ := g.tb p hp
    refine ⟨jn_nn a (jn_nl b), jn_nr b, ps, c1, c2, fun pos cv e => ?_⟩
    obtain ⟨c, e1, e2⟩ := c3 pos cv e
    exact ⟨c, e1, jn_some e2⟩
  · rcases z with z | z
    · exact absurd (jn_nn f (jn_nl n)) z
    · exact absurd (jn_nr n) z
/-- a new object -/
theorem Good.alloc (g : Good T F h H) (hp : H p = none) (ho : ∀ ps, o ≠ .tbl ps) : Good T F (jn h (sg p o)) (upd H p o) ∧ Step F h H F (jn h (sg p o)) (upd H p o) ∧ Dis h (sg p o) := by
  have np : h p = none := g.o.non hp
  have dd : Dis h (sg p o) := Dis.single np
  refine ⟨⟨g.f.trans (upd_le hp), Le.join (g.o.trans (upd_le hp)) (Le.single upd_same), Dis.both g.d (Dis.single (g.f.non hp)), fun b ps => ⟨(g.nt b ps).1, fun e => ?_⟩, fun q hq => ?_⟩, ⟨Le.refl, fun b u e _ => .inl (upd_le hp _ _ e), fun b f n z => ?_⟩, dd⟩
  · rcases jn_cases e with e | e
    · exact (g.nt b ps).2 e
    · obtain ⟨_, e⟩ := sg_some e
      exact ho ps e.symm
  · obtain ⟨a, b, ps, c1, c2, c3⟩ := g.tb q hq
    have ne : q.1 ≠ p := fun e => by rw [e, hp] at c1; cases c1
    exact ⟨a, jn_nn b (sg_ne ne), ps, by rw [upd_ne ne]; exact c1, c2, c3⟩
  · rcases z with z | z
    · exact absurd f z
    · by_cases e : b = p
      · rw [e]; exact hp
      · exact absurd (jn_nn n (sg_ne e)) z
/-- an owned object is written -/
theorem Good.write (g : Good T F (jn (sg p o) h1) H) (hn : h1 p = none) (ho : ∀ ps, o' ≠ .tbl ps) : Good T F (jn (sg p o') h1) (upd H p o') ∧ Step F (jn (sg p o) h1) H F (jn (sg p o') h1) (upd H p o') := by
  have hH : H p = some o := g.o _ _ (jn_some sg_at)
  have hF : F p = none := by
    rcases g.d p with x | x
    · exact x
    · rw [jn_some sg_at] at x; cases x
  refine ⟨⟨fun x u e => ?_, Le.join (Le.single upd_same) (fun x u e => ?_), Dis.both (Dis.single hF) g.d.r, fun b ps => ⟨(g.nt b ps).1, fun e => ?_⟩, fun q hq => ?_⟩, ⟨Le.refl, fun b u e n => ?_, fun b f n z => ?_⟩⟩
  · have ne : x ≠ p := fun z => by rw [z, hF] at e; cases e
    rw [upd_ne ne]; exact g.f _ _ e
  · have ne : x ≠ p := fun z => by rw [z, hn] at e; cases e
    rw [upd_ne ne]; exact g.o _ _ (jn_right (Dis.single' hn) e)
  · rcases jn_cases e with e | e
    · obtain ⟨_, e⟩ := sg_some e
      exact ho ps e.symm
    · exact (g.nt b ps).2 (jn_right (Dis.single' hn) e)
  · obtain ⟨a, b, ps, c1, c2, c3⟩ := g.tb q hq
    have ne : q.1 ≠ p := fun e => by rw [e, jn_some sg_at] at b; cases b
    refine ⟨a, jn_nn (sg_ne ne) (jn_nr b), ps, by rw [upd_ne ne]; exact c1, c2, c3⟩
  · have ne : b ≠ p := fun z => by rw [z, jn_some sg_at] at n; cases n
    exact .inl (by rw [upd_ne ne]; exact e)
  · rcases z with z | z
    · exact absurd f z
    · have ne : b ≠ p := fun z => by rw [z, jn_some sg_at] at n; cases n
      exact absurd (jn_nn (sg_ne ne) (jn_nr n)) z
theorem Good.allocF (g : Good T F h H) (hp : H p = none) (ho : ∀ ps, o ≠ .tbl ps) : Good T (jn F (sg p o)) h (upd H p o) ∧ Step F h H (jn F (sg p o)) h (upd H p o) := by
  obtain ⟨a, b, dd⟩ := g.alloc hp ho
  rw [jn_comm dd] at a b
  obtain ⟨c, e⟩ := a.freeze dd.symm
  exact ⟨c, b.trans a.d e⟩
theorem Good.le (g : Good T F h H) : Le (jn F h) H := Le.join g.f g.o
end
/-! ### slots -/
def SlotO (T : Tabs) (F : Hp) (c : Cell) (s : Option V) (h : Hp) : Prop := (c = .un ∧ h = emp) ∨ ∃ v, s = some v ∧ CO T F c v h
def EnvO (T : Tabs) (F : Hp) : Env → L2.St → Hp → Prop
  | [], σ, h => σ = [] ∧ h = emp
  | c :: ρ, σ, h => ∃ s r h1 h2, σ = s :: r ∧ Dis h1 h2 ∧ h = jn h1 h2 ∧ SlotO T F c s h1 ∧ EnvO T F ρ r h2
section
variable {T : Tabs} {F G h : Hp} {c : Cell} {s : Option V} {σ : L2.St}
theorem SlotO.mono (l : Le F G) (x : SlotO T F c s h) : SlotO T G c s h := x.imp id fun ⟨v, e, z⟩ => ⟨v, e, z.mono l⟩
theorem EnvO.mono (l : Le F G) : ∀ {ρ : Env} {σ : L2.St} {h : Hp}, EnvO T F ρ σ h → EnvO T G ρ σ h
  | [], _, _, x => x
  | _ :: _, _, _, ⟨s, r, h1, h2, e, dd, z, a, b⟩ => ⟨s, r, h1, h2, e, dd, z, a.mono l, EnvO.mono l b⟩
theorem EnvO.length : ∀ {ρ : Env} {σ : L2.St} {h : Hp}, EnvO T F ρ σ h → σ.length = ρ.length
  | [], _, _, x => by rw [x.1]; rfl
  | _ :: _, _, _, ⟨s, r, _, _, e, _, _, _, b⟩ => by subst e; simp [b.length]
theorem EnvO.get : ∀ {ρ : Env} {σ : L2.St} {h : Hp} {i : Nat} {c : Cell}, EnvO T F ρ σ h → ρ[i]? = some c →
    ∃ s h1 h2, σ[i]? = some s ∧ Dis h1 h2 ∧ h = jn h1 h2 ∧ SlotO T F c s h1 ∧ ∀ F' c' s' h1', Le F F' → Dis h1' h2 → SlotO T F' c' s' h1' → EnvO T F' (ρ.set i c') (σ.set i s') (jn h1' h2)
  | [], _, _, _, _, _, e => by simp at e
  | c0 :: ρ, _, _, 0, c, ⟨s, r, h1, h2, e, dd, z, a, b⟩, w => by
    subst e
    simp at w
    subst w
    exact ⟨s, h1, h2, rfl, dd, z, a, fun F' c' s' h1' l d' x => ⟨s', r, h1', h2, rfl, d', rfl, x, b.mono l⟩⟩
  | c0 :: ρ, _, _, i + 1, c, ⟨s, r, h1, h2, e, dd, z, a, b⟩, w => by
    subst e
    obtain ⟨s1, k1, k2, e1, d1, e2, a1, f⟩ := EnvO.get (i := i) b (by simpa using w)
    subst e2
    refine ⟨s1, k1, jn h1 k2, by simpa using e1, Dis.both dd.l.symm d1, by rw [z, jn_left dd.l], a1, fun F' c' s' h1' l d' x => ⟨s, r.set i s', h1, jn h1' k2, rfl, Dis.both d'.l.symm dd.r, ?_, a.mono l, f F' c' s' h1' l d'.r x⟩⟩
    rw [jn_left d'.l]
/-- a slot forgotten -/
theorem EnvO.forget {ρ : Env} {i : Nat} (x : EnvO T F ρ σ h) : ∃ h1 h2, h = jn h1 h2 ∧ Dis h1 h2 ∧ ∀ s', EnvO T F (ρ.set i .un) (σ.set i s') h1 := by
  by_cases hi : i < ρ.length
  · obtain ⟨s, h1, h2, e1, dd, e2, a, f⟩ := x.get (i := i) (c := ρ[i]) (by simp [hi])
    refine ⟨h2, h1, by rw [e2, jn_comm dd], dd.symm, fun s' => ?_⟩
    have q := f F .un s' emp Le.refl Dis.empl (.inl ⟨rfl, rfl⟩)
    rw [emp_jn] at q
    exact q
  · refine ⟨h, emp, by rw [jn_emp], Dis.empr, fun s' => ?_⟩
    rw [List.set_eq_of_length_le (by omega), List.set_eq_of_length_le (by rw [x.length]; omega)]
    exact x
/-- a slot that holds v is set anew -/
theorem set_self {α : Type} {l : List α} {i : Nat} {a : α} (h : l[i]? = some a) : l.set i a = l := by
  apply List.ext_getElem?
  intro j
  by_cases e : i = j
  · subst e
    have hi : i < l.length := (List.getElem?_eq_some_iff.mp h).1
    rw [List.getElem?_set_self hi, h]
  · rw [List.getElem?_set_ne e]
end
/-- an expression's result: a cell, or the object of a slot -/
def RO (T : Tabs) (F : Hp) (σ : L2.St) (c : Cell) (v : V) (h : Hp) : Prop := (∃ i, c = .ali i ∧ σ[i]? = some (some v) ∧ h = emp) ∨ CO T F c v h
def ROs (T : Tabs) (F : Hp) (σ : L2.St) : List Cell → List V → Hp → Prop
  | [], xs, h => xs = [] ∧ h = emp
  | c :: cs, xs, h => ∃ x r h1 h2, xs = x :: r ∧ Dis h1 h2 ∧ h = jn h1 h2 ∧ RO T F σ c x h1 ∧ ROs T F σ cs r h2
section
variable {T : Tabs} {F G : Hp} {σ : L2.St}
theorem RO.mono (l : Le F G) {c : Cell} {v : V} {h : Hp} (x : RO T F σ c v h) : RO T G σ c v h := x.imp id (CO.mono l)
theorem ROs.mono (l : Le F G) : ∀ {cs : List Cell} {vs : List V} {h : Hp}, ROs T F σ cs vs h → ROs T G σ cs vs h
  | [], _, _, r => r
  | _ :: _, _, _, ⟨x, r, h1, h2, e, dd, z, a, b⟩ => ⟨x, r, h1, h2, e, dd, z, a.mono l, b.mono l⟩
theorem ROs.uno {c : Cell} {vs : List V} {h : Hp} (r : ROs T F σ [c] vs h) : ∃ x, vs = [x] ∧ RO T F σ c x h := by
  obtain ⟨x, _, h1, h2, rfl, _, rfl, a, rfl, rfl⟩ := r
  rw [jn_emp]
  exact ⟨x, rfl, a⟩
theorem ROs.two {c d : Cell} {vs : List V} {h : Hp} (r : ROs T F σ [c, d] vs h) : ∃ x y h1 h2, vs = [x, y] ∧ Dis h1 h2 ∧ h = jn h1 h2 ∧ RO T F σ c x h1 ∧ RO T F σ d y h2 := by
  obtain ⟨x, _, h1, h2, rfl, dd, rfl, a, b⟩ := r
  obtain ⟨y, rfl, b'⟩ := b.uno
  exact ⟨x, y, h1, h2, rfl, dd, rfl, a, b'⟩
end
end CL

/-! # CL: readings of expressions -/
namespace CL
open PySem L2
/-- an exception: its class, its fields -/
structure Exc where
  c : Nat
  ds : List D
def XO (T : Tabs) (F : Hp) (x : Exc) (cls : Value) (d : Option Addr) (h : Hp) : Prop :=
  cls = .ref (T.cls x.c) ∧ ((xfldN x.c = [] ∧ x.ds = [] ∧ d = none ∧ h = emp) ∨ ∃ dd vs, d = some dd ∧ xfldN x.c ≠ [] ∧ h = sg dd (.xd ((xfldN x.c).zip vs)) ∧ (xfldN x.c).length = x.ds.length ∧ Reps T F x.ds vs)
abbrev KX := Exc → Env → Prop
abbrev WE := Env → (Cell → Env → Prop) → KX → Prop
abbrev WA := Env → (List Cell → Env → Prop) → KX → Prop
abbrev WT := Env → (Bool → Env → Prop) → KX → Prop
section
variable (T : Tabs) (σ : L2.St) (F h H : Hp)
def OutE (K : Cell → Env → Prop) (v : V) (H' : Hp) : Prop :=
  ∃ c ρ' F' h1 h2, Good T F' (jn h1 h2) H' ∧ Dis h1 h2 ∧ Step F h H F' (jn h1 h2) H' ∧ EnvO T F' ρ' σ h1 ∧ RO T F' σ c v h2 ∧ K c ρ'
def OutA (K : List Cell → Env → Prop) (vs : List V) (H' : Hp) : Prop :=
  ∃ cs ρ' F' h1 h2, Good T F' (jn h1 h2) H' ∧ Dis h1 h2 ∧ Step F h H F' (jn h1 h2) H' ∧ EnvO T F' ρ' σ h1 ∧ ROs T F' σ cs vs h2 ∧ K cs ρ'
def OutT (K : Bool → Env → Prop) (b : Bool) (H' : Hp) : Prop :=
  ∃ ρ' F' h1, Good T F' h1 H' ∧ Step F h H F' h1 H' ∧ EnvO T F' ρ' σ h1 ∧ K b ρ'
def OutX (Z : KX) (cls : Value) (d : Option Addr) (H' : Hp) : Prop :=
  ∃ x ρ' F' h1 h2, Good T F' (jn h1 h2) H' ∧ Dis h1 h2 ∧ Step F h H F' (jn h1 h2) H' ∧ EnvO T F' ρ' σ h1 ∧ XO T F' x cls d h2 ∧ Z x ρ'
end
section
variable (T : Tabs) (W : WX)
def SemE (t : TE) (w : WE) : Prop := ∀ ρ σ F h H Q K Z, Good T F h H → EnvO T F ρ σ h → w ρ K Z →
  (∀ v H', OutE T σ F h H K v H' → Q v H') → (∀ cls d H', OutX T σ F h H Z cls d H' → W cls d σ H') → t σ H Q
def SemA (t : TA) (w : WA) : Prop := ∀ ρ σ F h H Q K Z, Good T F h H → EnvO T F ρ σ h → w ρ K Z →
  (∀ v H', OutA T σ F h H K v H' → Q v H') → (∀ cls d H', OutX T σ F h H Z cls d H' → W cls d σ H') → t σ H Q
def SemT (t : TT) (w : WT) : Prop := ∀ ρ σ F h H Q K Z, Good T F h H → EnvO T F ρ σ h → w ρ K Z →
  (∀ v H', OutT T σ F h H K v H' → Q v H') → (∀ cls d H', OutX T σ F h H Z cls d H' → W cls d σ H') → t σ H Q
variable (X : Cx)
structure SE (e : Expr) (w : WE) : Prop where
  ex : ∃ t, PE X e t ∧ SemE T W t w
structure SA (es : List Expr) (w : WA) : Prop where
  ex : ∃ t, PA X es t ∧ SemA T W t w
structure ST (e : Expr) (w : WT) : Prop where
  ex : ∃ t, PT X e t ∧ SemT T W t w
/-- .. whatever its whole is -/
structure SW (e : Expr) (w : WT) : Prop where
  ex : ∃ t, PW X e t ∧ SemT T W t w
end
section
variable {T : Tabs} {W : WX} {X : Cx} {ρ : Env} {σ : L2.St} {F F' h h' h1 h2 ha he H H' H'' : Hp} {Z : KX}
theorem SW.st {e : Expr} {w : WT} (h : SW T W X e w) : ST T W X e w := let ⟨t, a, b⟩ := h.ex; ⟨t, a.pt, b⟩
/-- what is owned beside -/
theorem frame (g : Good T F (jn he ha) H) (dd : Dis he ha) (g' : Good T F' h' H') (s : Step F he H F' h' H') : Good T F' (jn h' ha) H' ∧ Step F (jn he ha) H F' (jn h' ha) H' ∧ Dis h' ha := by
  have nt : ∀ b o, ha b = some o → ∀ ps, o ≠ .tbl ps := fun b o e ps z => (g.nt b ps).2 (jn_right dd (by rw [e, z]))
  have hk : Le ha H' := fun b o e => (s.fr b o (g.o _ _ (jn_right dd e)) (by
    rcases dd b with x | x
    · exact x
    · rw [x] at e; cases e)).nt (nt b o e)
  have off : ∀ b o, ha b = some o → F' b = none ∧ h' b = none := fun b o e => by
    have f0 : F b = none := by
      rcases g.d b with x | x
      · exact x
      · rw [jn_right dd e] at x; cases x
    have h0 : he b = none := by
      rcases dd b with x | x
      · exact x
      · rw [x] at e; cases e
    have hh : H b = some o := g.o _ _ (jn_right dd e)
    refine ⟨?_, ?_⟩
    · cases q : F' b with
      | none => rfl
      | some u =>
        have z := s.nw b f0 h0 (.inl (by rw [q]; exact fun y => nomatch y))
        rw [z] at hh; cases hh
    · cases q : h' b with
      | none => rfl
      | some u =>
        have z := s.nw b f0 h0 (.inr (by rw [q]; exact fun y => nomatch y))
        rw [z] at hh; cases hh
  have d1 : Dis F' ha := fun b => by
    cases q : ha b with
    | none => exact .inr rfl
    | some o => exact .inl (off b o q).1
  have d2 : Dis h' ha := fun b => by
    cases q : ha b with
    | none => exact .inr rfl
    | some o => exact .inl (off b o q).2
  refine ⟨⟨g'.f, Le.join g'.o hk, Dis.both g'.d d1, fun b ps => ⟨(g'.nt b ps).1, fun e => ?_⟩, fun p hp => ?_⟩, ⟨s.le, fun b o e n => s.fr b o e (jn_nl n), fun b f n z => s.nw b f (jn_nl n) (z.imp id fun y q => y (jn_nn q (jn_nr n)))⟩, d2⟩
  · rcases jn_cases e with e | e
    · exact (g'.nt b ps).2 e
    · exact nt b _ e ps rfl
  · obtain ⟨a, b, c⟩ := g'.tb p hp
    obtain ⟨a0, b0, _⟩ := g.tb p hp
    exact ⟨a, jn_nn b (jn_nr b0), c⟩
theorem OutX.pre (s : Step F h H F' h' H') (g : Good T F' h' H') {cls : Value} {d : Option Addr} (x : OutX T σ F' h' H' Z cls d H'') : OutX T σ F h H Z cls d H'' := by
  obtain ⟨x, ρ', F2, h1, h2, a, b, c, e⟩ := x
  exact ⟨x, ρ', F2, h1, h2, a, b, s.trans g.d c, e⟩
theorem OutE.pre (s : Step F h H F' h' H') (g : Good T F' h' H') {K : Cell → Env → Prop} {v : V} (x : OutE T σ F' h' H' K v H'') : OutE T σ F h H K v H'' := by
  obtain ⟨x, ρ', F2, h1, h2, a, b, c, e⟩ := x
  exact ⟨x, ρ', F2, h1, h2, a, b, s.trans g.d c, e⟩
theorem OutT.pre (s : Step F h H F' h' H') (g : Good T F' h' H') {K : Bool → Env → Prop} {v : Bool} (x : OutT T σ F' h' H' K v H'') : OutT T σ F h H K v H'' := by
  obtain ⟨ρ', F2, h1, a, c, e⟩ := x
  exact ⟨ρ', F2, h1, a, s.trans g.d c, e⟩
theorem OutA.pre (s : Step F h H F' h' H') (g : Good T F' h' H') {K : List Cell → Env → Prop} {v : List V} (x : OutA T σ F' h' H' K v H'') : OutA T σ F h H K v H'' := by
  obtain ⟨x, ρ', F2, h1, h2, a, b, c, e⟩ := x
  exact ⟨x, ρ', F2, h1, h2, a, b, s.trans g.d c, e⟩
/-- a value that owns nothing, in the state as it is -/
theorem OutE.fz {d : D} {v : V} {K : Cell → Env → Prop} (g : Good T F h H) (e : EnvO T F ρ σ h) (r : Rep T F d v) (k : K (.fz d) ρ) : OutE T σ F h H K v H :=
  ⟨_, ρ, F, h, emp, by rw [jn_emp]; exact g, Dis.empr, by rw [jn_emp]; exact .refl, e, .inr (show CO T F (.fz d) v emp from ⟨r, rfl⟩), k⟩
/-- .. beside what is forgotten -/
theorem OutE.fzDrop {d : D} {v : V} {K : Cell → Env → Prop} (g : Good T F (jn he ha) H) (e : EnvO T F ρ σ he) (r : Rep T F d v) (k : K (.fz d) ρ) : OutE T σ F (jn he ha) H K v H :=
  OutE.pre g.drop.2 g.drop.1 (.fz g.drop.1 e r k)
/-! ### names, constants -/
def wVar (i : Nat) : WE := fun ρ K _ => match ρ[i]? with
  | some (.fz d) => K (.fz d) ρ
  | some (.lst _) => K (.ali i) ρ
  | some (.dct _ _) => K (.ali i) ρ
  | some (.obj _ _) => K (.ali i) ρ
  | some (.lsc _) => K (.ali i) ρ
  | _ => False
def wC (d : D) : WE := fun ρ K _ => K (.fz d) ρ
theorem sem_var (i : Nat) : SemE T W (tVar i) (wVar i) := fun ρ σ F h H Q K Z g e w hQ _ => by
  cases q : ρ[i]? with
  | none => simp [wVar, q] at w
  | some c =>
    obtain ⟨s, k1, k2, e1, dd, e2, a, _⟩ := e.get q
    have key : ∀ v, s = some v → K (.ali i) ρ → tVar i σ H Q := fun v es k =>
      ⟨v, by rw [e1, es], hQ v H ⟨.ali i, ρ, F, h, emp, by rw [jn_emp]; exact g, Dis.empr, by rw [jn_emp]; exact .refl, e, .inl ⟨i, rfl, by rw [e1, es], rfl⟩, k⟩⟩
    rcases a with ⟨z, _⟩ | ⟨v, es, a⟩
    · subst z; simp [wVar, q] at w
    · cases c with
      | fz d =>
        simp only [wVar, q] at w
        exact ⟨v, by rw [e1, es], hQ v H (.fz g e a.1 w)⟩
      | lst _ => simp only [wVar, q] at w; exact key v es w
      | dct _ _ => simp only [wVar, q] at w; exact key v es w
      | obj _ _ => simp only [wVar, q] at w; exact key v es w
      | lsc _ => simp only [wVar, q] at w; exact key v es w
      | un => simp [wVar, q] at w
      | ali _ => simp [wVar, q] at w
      | dfz _ _ => simp [wVar, q] at w
      | exo _ _ _ _ => simp [wVar, q] at w
theorem se_var (i : Nat) {x : Str} {pos : Pos} (hN : X.N[i]? = some x := by rfl) (hv : Vis X.env.scope x := by first | exact Or.inl rfl | exact Or.inr (Or.inl rfl) | exact Or.inr (Or.inr rfl)) (hd : (x == ("__debug__" : Str)) = false := by decide)
    (hcd : (x == ("__classdict__" : Str)) = false := by decide) : SE T W X (.Name x pos) (wVar i) := ⟨⟨_, pe_var hN hv hd hcd, sem_var i⟩⟩
theorem sem_c {d : D} {v : V} (r : ∀ F, Rep T F d v) : SemE T W (tC v) (wC d) := fun ρ σ F h H Q K Z g e w hQ _ => hQ v H (.fz g e (r F) w)
theorem se_int {i : Int} {j pos} : SE T W X (.Constant (.int i) j pos) (wC (.int i)) := ⟨⟨_, pe_int, sem_c fun _ => rfl⟩⟩
theorem se_bl {b j pos} : SE T W X (.Constant (.bool b) j pos) (wC (.bl b)) := ⟨⟨_, pe_bl, sem_c fun _ => rfl⟩⟩
theorem se_non {j pos} : SE T W X (.Constant .none j pos) (wC .non) := ⟨⟨_, pe_non, sem_c fun _ => rfl⟩⟩
theorem se_str {x j pos} : SE T W X (.Constant (.str x) j pos) (wC (.str x)) := ⟨⟨_, pe_str, sem_c fun _ => rfl⟩⟩
/-- a module's constant -/
theorem se_gint {x : Str} {i : Int} {pos : Pos} (hm : ∃ t, X.mg x = some (.int i t)) (hg : Gl X x := by rfl) (hd : (x == ("__debug__" : Str)) = false := by decide) : SE T W X (.Name x pos) (wC (.int i)) := let ⟨_, hm⟩ := hm; ⟨⟨_, pe_glob (v := .int i) hg hm ⟨_, rfl⟩ hd, sem_c fun _ => rfl⟩⟩
theorem se_gstr {x : Str} {i : Str} {pos : Pos} (hm : ∃ t, X.mg x = some (.str i t)) (hg : Gl X x := by rfl) (hd : (x == ("__debug__" : Str)) = false := by decide) : SE T W X (.Name x pos) (wC (.str i)) := let ⟨_, hm⟩ := hm; ⟨⟨_, pe_glob (v := .str i) hg hm ⟨_, rfl⟩ hd, sem_c fun _ => rfl⟩⟩
/-! ### argument lists -/
def wNil : WA := fun ρ K _ => K [] ρ
def wCons (wa : WE) (wr : WA) : WA := fun ρ K Z => wa ρ (fun c ρ1 => wr ρ1 (fun cs ρ2 => K (c :: cs) ρ2) Z) Z
theorem sem_nil : SemA T W tNil wNil := fun ρ σ F h H Q K Z g e w hQ _ =>
  hQ [] H ⟨[], ρ, F, h, emp, by rw [jn_emp]; exact g, Dis.empr, by rw [jn_emp]; exact .refl, e, ⟨rfl, rfl⟩, w⟩
theorem sem_cons {te : TE} {tr : TA} {wa : WE} {wr : WA} (a : SemE T W te wa) (b : SemA T W tr wr) : SemA T W (tCons te tr) (wCons wa wr) := fun ρ σ F h H Q K Z g e w hQ hZ => by
  refine a ρ σ F h H _ _ Z g e w (fun v H1 o => ?_) hZ
  obtain ⟨c, ρ1, F1, k1, k2, g1, d1, s1, e1, r1, w1⟩ := o
  obtain ⟨gd, sd⟩ := g1.drop
  refine b ρ1 σ F1 k1 H1 _ _ Z gd e1 w1 (fun vs H2 o => ?_) (fun cls d H2 o => hZ cls d H2 (.pre s1 g1 (.pre sd gd o)))
  obtain ⟨cs, ρ2, F2, l1, l2, g2, d2, s2, e2, r2, w2⟩ := o
  obtain ⟨g3, s3, d3⟩ := frame g1 d1 g2 s2
  refine hQ (v :: vs) H2 ⟨c :: cs, ρ2, F2, l1, jn k2 l2, ?_, Dis.both d3.l' d2, ?_, e2, ⟨v, vs, k2, l2, rfl, d3.r'.symm, rfl, r1.mono s2.le, r2⟩, w2⟩
  · rw [← jn_assoc, jn_swap d3.r'.symm]; exact g3
  · rw [← jn_assoc, jn_swap d3.r'.symm]; exact s1.trans g1.d s3
theorem sa_nil : SA T W X [] wNil := ⟨⟨_, pa_nil, sem_nil⟩⟩
theorem sa_cons {e : Expr} {es : List Expr} {wa : WE} {wr : WA} (a : SE T W X e wa) (b : SA T W X es wr) (hs : starEach (e :: es) X.env = (false, eval e X.env) :: starEach es X.env := by rfl) : SA T W X (e :: es) (wCons wa wr) :=
  let ⟨_, a1, a2⟩ := a.ex; let ⟨_, b1, b2⟩ := b.ex; ⟨⟨_, pa_cons a1 b1 hs, sem_cons a2 b2⟩⟩
/-! ### operators by cells -/
abbrev WF := List Cell → Env → (Cell → Env → Prop) → Prop
def wF (f : WF) (wa : WA) : WE := fun ρ K Z => wa ρ (fun cs ρ' => f cs ρ' K) Z
def OpS (T : Tabs) (r : List V → Hp → VK → Prop) (f : WF) : Prop := ∀ cs ρ vs σ F he ha H Q K, Good T F (jn he ha) H → Dis he ha → EnvO T F ρ σ he → ROs T F σ cs vs ha → f cs ρ K →
  (∀ v H', OutE T σ F (jn he ha) H K v H' → Q v H') → r vs H Q
def tOpA (r : List V → Hp → VK → Prop) (ta : TA) : TE := fun σ H Q => ta σ H fun vs H1 => r vs H1 Q
theorem sem_op {ta : TA} {wa : WA} {r : List V → Hp → VK → Prop} {f : WF} (a : SemA T W ta wa) (o : OpS T r f) : SemE T W (tOpA r ta) (wF f wa) := fun ρ σ F h H Q K Z g e w hQ hZ => by
  refine a ρ σ F h H _ _ Z g e w (fun vs H1 x => ?_) hZ
  obtain ⟨cs, ρ1, F1, k1, k2, g1, d1, s1, e1, r1, w1⟩ := x
  exact o cs ρ1 vs σ F1 k1 k2 H1 Q K g1 d1 e1 r1 w1 fun v H' x => hQ v H' (.pre s1 g1 x)
def r2 (r : R2) : List V → Hp → VK → Prop := fun vs H Q => match vs with
  | [x, y] => r x y H Q
  | _ => False
def r1 (r : V → Hp → VK → Prop) : List V → Hp → VK → Prop := fun vs H Q => match vs with
  | [x] => r x H Q
  | _ => False
abbrev w2 (f : WF) (wa wb : WE) : WE := wF f (wCons wa (wCons wb wNil))
abbrev w1 (f : WF) (wa : WE) : WE := wF f (wCons wa wNil)
theorem sem_op2 {ta tb : TE} {wa wb : WE} {r : R2} {f : WF} (a : SemE T W ta wa) (b : SemE T W tb wb) (o : OpS T (r2 r) f) : SemE T W (tOp r ta tb) (w2 f wa wb) := sem_op (sem_cons a (sem_cons b sem_nil)) o
theorem sem_op1 {ta : TE} {wa : WE} {r : V → Hp → VK → Prop} {f : WF} (a : SemE T W ta wa) (o : OpS T (r1 r) f) : SemE T W (tUn r ta) (w1 f wa) := sem_op (sem_cons a sem_nil) o
/-- a choice of readings -/
theorem OpS.or {r r' : R2} {f : WF} (h : ∀ cs ρ vs σ F he ha H Q K, Good T F (jn he ha) H → Dis he ha → EnvO T F ρ σ he → ROs T F σ cs vs ha → f cs ρ K → (∀ v H', OutE T σ F (jn he ha) H K v H' → Q v H') → r2 r vs H Q ∨ r2 r' vs H Q) :
    OpS T (r2 fun x y H Q => r x y H Q ∨ r' x y H Q) f := fun cs ρ vs σ F he ha H Q K g d e ro w hQ => by
  have z := h cs ρ vs σ F he ha H Q K g d e ro w hQ
  match vs, z with
  | [x, y], z => exact z
/-! ### what a cell shows: its data, the items frozen -/
def sv (ρ : Env) : Cell → Option D
  | .fz d => some d
  | .lst ds => some (.lst ds)
  | .dct ks ds => some (.dct ks ds)
  | .ali i => match ρ[i]? with
    | some (.lst ds) => some (.lst ds)
    | some (.dct ks ds) => some (.dct ks ds)
    | some (.fz d) => some d
    | _ => none
  | _ => none
def SV (T : Tabs) (F H : Hp) : D → V → Prop
  | .lst ds, v => ∃ p xs, v = .ref p ∧ H p = some (.lst xs) ∧ Reps T F ds xs
  | .dct ks ds, v => ∃ p xs, v = .ref p ∧ H p = some (.dK (ks.zip xs)) ∧ ks.length = ds.length ∧ Reps T F ds xs
  | d, v => Rep T F d v
theorem SV.of (l : Le F H) : ∀ {d : D} {v : V}, Rep T F d v → SV T F H d v
  | .lst _, _, ⟨p, xs, e, a, b⟩ => ⟨p, xs, e, l _ _ a, b⟩
  | .tup _, _, r => r
  | .dct _ _, _, ⟨p, xs, e, a, b⟩ => ⟨p, xs, e, l _ _ a, b⟩
  | .non, _, r => r
  | .bl _, _, r => r
  | .int _, _, r => r
  | .str _, _, r => r
  | .obj _ _, _, r => r
  | .scr _, _, r => r
theorem SV.co {c : Cell} {d : D} {v : V} (l : Le F H) (lh : Le h H) (x : CO T F c v h) (s : ∀ ρ, sv ρ c = some d) : SV T F H d v := by
  cases c with
  | fz d' => cases s []; exact SV.of l x.1
  | lst ds =>
    cases s []
    obtain ⟨p, xs, e, z, r⟩ := x
    exact ⟨p, xs, e, lh _ _ (by rw [z]; exact sg_at), r⟩
  | dct ks ds =>
    cases s []
    obtain ⟨p, xs, e, n, z, r⟩ := x
    exact ⟨p, xs, e, lh _ _ (by rw [z]; exact sg_at), n, r⟩
  | un => cases s []
  | obj _ _ => cases s []
  | lsc _ => cases s []
  | dfz _ _ => cases s []
  | exo _ _ _ _ => cases s []
  | ali _ => exact x.elim
theorem RO.sv {c : Cell} {d : D} {v : V} (g : Good T F (jn he ha) H) (dd : Dis he ha) (e : EnvO T F ρ σ he) (x : RO T F σ c v ha) (s : sv ρ c = some d) : SV T F H d v := by
  rcases x with ⟨i, ec, es, _⟩ | x
  · subst ec
    cases q : ρ[i]? with
    | none => simp [CL.sv, q] at s
    | some c =>
      obtain ⟨s1, k1, k2, e1, _, e2, a, _⟩ := e.get q
      rw [e1] at es
      cases es
      rcases a with ⟨z, _⟩ | ⟨v', ev, a⟩
      · subst z; simp [CL.sv, q] at s
      · cases ev
        refine SV.co g.f (h := k1) (Le.trans (by rw [e2]; exact Le.left) (Le.left.trans g.o)) a fun ρ' => ?_
        cases c <;> simp_all [CL.sv]
  · refine SV.co g.f ((Le.right dd).trans g.o) x fun ρ' => ?_
    cases c with
    | ali _ => exact x.elim
    | _ => exact s
def svs (ρ : Env) : List Cell → Option (List D)
  | [] => some []
  | c :: cs => match sv ρ c, svs ρ cs with
    | some d, some ds => some (d :: ds)
    | _, _ => none
def opt {α : Type} : Option α → (α → Prop) → Prop
  | some a, k => k a
  | none, _ => False
theorem opt_of {α : Type} {o : Option α} {k : α → Prop} (h : opt o k) : ∃ a, o = some a ∧ k a := by
  cases o with
  | none => exact h.elim
  | some a => exact ⟨a, rfl, h⟩
def SVs (T : Tabs) (F H : Hp) : List D → List V → Prop
  | [], xs => xs = []
  | d :: ds, xs => ∃ x r, xs = x :: r ∧ SV T F H d x ∧ SVs T F H ds r
theorem ROs.svs (g : Good T F (jn he ha) H) (dd : Dis he ha) (e : EnvO T F ρ σ he) : ∀ {cs : List Cell} {vs : List V} {hb : Hp} {ds : List D}, ROs T F σ cs vs hb → Le hb ha → svs ρ cs = some ds → SVs T F H ds vs
  | [], _, _, _, x, _, s => by cases s; exact x.1
  | c :: cs, _, hb, ds, ⟨x, r, k1, k2, ex, d1, z, a, b⟩, l, s => by
    cases q1 : CL.sv ρ c with
    | none => simp [CL.svs, q1] at s
    | some d =>
      cases q2 : CL.svs ρ cs with
      | none => simp [CL.svs, q1, q2] at s
      | some ds' =>
        simp only [CL.svs, q1, q2] at s
        cases s
        have lk1 : Le k1 ha := Le.trans (by rw [z]; exact Le.left) l
        have lk2 : Le k2 ha := Le.trans (by rw [z]; exact Le.right d1) l
        have gg : Good T F (jn he k1) H := by
          have e0 : jn he ha = jn (jn he k1) ha := by
            funext y
            show (he y).or (ha y) = ((he y).or (k1 y)).or (ha y)
            cases hy : he y with
            | some _ => rfl
            | none =>
              cases ky : k1 y with
              | none => rfl
              | some o => exact lk1 y o ky
          rw [e0] at g
          exact g.drop.1
        exact ⟨x, r, ex, RO.sv gg (fun y => (dd y).imp id fun n => lk1.non n) e a q1, ROs.svs g dd e b lk2 q2⟩
/-- an operator that gives back a flat value -/
def fS (g : List D → Option D) : WF := fun cs ρ K => opt (svs ρ cs) fun ds => opt (g ds) fun d => K (.fz d) ρ
def ScS (T : Tabs) (r : List V → Hp → VK → Prop) (g : List D → Option D) : Prop := ∀ (vs : List V) (ds : List D) (F H : Hp) (Q : VK) (d : D), Le F H → SVs T F H ds vs → g ds = some d → (∀ v, Rep T F d v → Q v H) → r vs H Q
theorem op_fS {r : List V → Hp → VK → Prop} {g : List D → Option D} (h : ScS T r g) : OpS T r (fS g) := fun cs ρ vs σ F he ha H Q K g0 dd e ro w hQ => by
  obtain ⟨ds, e1, w⟩ := opt_of w
  obtain ⟨d, e2, w⟩ := opt_of w
  exact h vs ds F H Q d g0.f (ROs.svs g0 dd e ro Le.refl e1) e2 fun v rv => hQ v H (.fzDrop g0 e rv w)
/-- an operator that gives back a new list | tuple, of frozen items -/
def fL (g : List D → Option (List D)) : WF := fun cs ρ K => opt (svs ρ cs) fun ds => opt (g ds) fun d => K (.lst d) ρ
def AlL (T : Tabs) (r : List V → Hp → VK → Prop) (g : List D → Option (List D)) : Prop := ∀ (vs : List V) (ds : List D) (F H : Hp) (Q : VK) (d : List D), Le F H → SVs T F H ds vs → g ds = some d → (∀ p xs, H p = none → Reps T F d xs → Q (.ref p) (upd H p (.lst xs))) → r vs H Q
theorem op_fL {r : List V → Hp → VK → Prop} {g : List D → Option (List D)} (h : AlL T r g) : OpS T r (fL g) := fun cs ρ vs σ F he ha H Q K g0 dd e ro w hQ => by
  obtain ⟨ds, e1, w⟩ := opt_of w
  obtain ⟨d, e2, w⟩ := opt_of w
  refine h vs ds F H Q d g0.f (ROs.svs g0 dd e ro Le.refl e1) e2 fun p xs hp rx => hQ _ _ (.pre g0.drop.2 g0.drop.1 ?_)
  obtain ⟨a, b, c⟩ := g0.drop.1.alloc (o := .lst xs) hp (fun _ z => nomatch z)
  exact ⟨.lst d, ρ, F, he, _, a, c, b, e, .inr ⟨p, xs, rfl, rfl, rx⟩, w⟩
def fU (g : List D → Option (List D)) : WF := fun cs ρ K => opt (svs ρ cs) fun ds => opt (g ds) fun d => K (.fz (.tup d)) ρ
def AlU (T : Tabs) (r : List V → Hp → VK → Prop) (g : List D → Option (List D)) : Prop := ∀ (vs : List V) (ds : List D) (F H : Hp) (Q : VK) (d : List D), Le F H → SVs T F H ds vs → g ds = some d → (∀ p xs, H p = none → Reps T F d xs → Q (.ref p) (upd H p (.tup xs))) → r vs H Q
theorem op_fU {r : List V → Hp → VK → Prop} {g : List D → Option (List D)} (h : AlU T r g) : OpS T r (fU g) := fun cs ρ vs σ F he ha H Q K g0 dd e ro w hQ => by
  obtain ⟨ds, e1, w⟩ := opt_of w
  obtain ⟨d, e2, w⟩ := opt_of w
  refine h vs ds F H Q d g0.f (ROs.svs g0 dd e ro Le.refl e1) e2 fun p xs hp rx => hQ _ _ (.pre g0.drop.2 g0.drop.1 ?_)
  obtain ⟨a, b⟩ := g0.drop.1.allocF (o := .tup xs) hp (fun _ z => nomatch z)
  exact .pre b a (.fz (d := .tup d) a (e.mono Le.left) ⟨p, xs, rfl, jn_right (Dis.single (g0.f.non hp)) sg_at, rx.mono Le.left⟩ w)
end
end CL

/-! # CL: operators -/
namespace CL
open PySem L2
/-! ### data for == -/
mutual
def pd : D → PyData
  | .non => .none
  | .bl b => .bool b
  | .int i => .int i
  | .str s => .str s
  | .tup ds => .tuple (pds ds)
  | .lst ds => .list (pds ds)
  | .dct _ _ => .dict []
  | .obj _ _ => .dict []
  | .scr ns => .list (ns.map PyData.int)
def pds : List D → List PyData
  | [] => []
  | d :: ds => pd d :: pds ds
end
theorem pds_map (ds : List D) : pds ds = ds.map pd := by induction ds with
  | nil => rfl
  | cons a r ih => simp [pds, ih]
/- data that == takes: no dict, no object, at most n deep -/
mutual
def lay : D → Nat → Bool
  | .tup ds, n + 1 => lays ds n
  | .lst ds, n + 1 => lays ds n
  | .tup _, 0 => false
  | .lst _, 0 => false
  | .dct _ _, _ => false
  | .obj _ _, _ => false
  | .scr _, _ => false
  | .non, _ => true
  | .bl _, _ => true
  | .int _, _ => true
  | .str s, _ => PyData.canLay0 (.str s)
def lays : List D → Nat → Bool
  | [], _ => true
  | d :: ds, n => lay d n && lays ds n
end
theorem lays_all (ds : List D) (n : Nat) : lays ds n = ds.all (lay · n) := by induction ds with
  | nil => rfl
  | cons a r ih => simp [lays, ih]
mutual
theorem lay_pd : ∀ {d : D} {n : Nat}, lay d n = true → (pd d).canLay0 = true ∧ (pd d).depth ≤ n
  | .non, _, _ => ⟨rfl, Nat.zero_le _⟩
  | .bl _, _, _ => ⟨rfl, Nat.zero_le _⟩
  | .int _, _, _ => ⟨rfl, Nat.zero_le _⟩
  | .str _, _, h => ⟨h, Nat.zero_le _⟩
  | .tup ds, n + 1, h => by
    have z := lays_pd (ds := ds) (n := n) (by simpa [lay] using h)
    simp only [pd, PyData.canLay0, PyData.depth]
    exact ⟨z.1, by omega⟩
  | .lst ds, n + 1, h => by
    have z := lays_pd (ds := ds) (n := n) (by simpa [lay] using h)
    simp only [pd, PyData.canLay0, PyData.depth]
    exact ⟨z.1, by omega⟩
  | .tup _, 0, h => by simp [lay] at h
  | .lst _, 0, h => by simp [lay] at h
  | .dct _ _, _, h => by simp [lay] at h
  | .obj _ _, _, h => by simp [lay] at h
  | .scr _, _, h => by simp [lay] at h
theorem lays_pd : ∀ {ds : List D} {n : Nat}, lays ds n = true → PyData.canLayAll0 (pds ds) = true ∧ PyData.depthAll (pds ds) ≤ n
  | [], _, _ => ⟨rfl, Nat.zero_le _⟩
  | d :: ds, n, h => by
    simp only [lays, Bool.and_eq_true] at h
    have a := lay_pd h.1
    have b := lays_pd h.2
    simp only [pds, PyData.canLayAll0, PyData.depthAll, Bool.and_eq_true]
    exact ⟨⟨a.1, b.1⟩, by omega⟩
end
theorem lay_shaped {d : D} (h : lay d 60 = true) : SeqAt.shaped (pd d) = true := by
  obtain ⟨a, b⟩ := lay_pd h
  simp only [SeqAt.shaped, a, Bool.true_and, decide_eq_true_eq]
  omega
/-- == of data, as the model has it -/
def eqD (d e : D) : Bool := PyData.eqv (pd d) (pd e)
section
variable {T : Tabs} {W : WX} {X : Cx} {ρ : Env} {σ : L2.St} {F H : Hp}
mutual
theorem Rep.dp {K : PySem.W.Frag} : ∀ {d : D} {v : V} {n : Nat}, Rep T F d v → lay d n = true → Dp K F v (pd d)
  | .non, _, _, r, _ => by cases r; exact .non
  | .bl _, _, _, r, _ => by cases r; exact .bl _
  | .int _, _, _, r, _ => by cases r; exact .int _
  | .str _, _, _, r, _ => by cases r; exact .str _
  | .tup ds, _, n + 1, ⟨p, xs, e, s, r⟩, h => by subst e; exact .tup (SqT.of s) (Reps.dp r (n := n) (by simpa [lay] using h))
  | .lst ds, _, n + 1, ⟨p, xs, e, s, r⟩, h => by subst e; exact .lst (SqL.of s) (Reps.dp r (n := n) (by simpa [lay] using h))
  | .tup _, _, 0, _, h => by simp [lay] at h
  | .lst _, _, 0, _, h => by simp [lay] at h
  | .dct _ _, _, _, _, h => by simp [lay] at h
  | .obj _ _, _, _, _, h => by simp [lay] at h
  | .scr _, _, _, _, h => by simp [lay] at h
theorem Reps.dp {K : PySem.W.Frag} : ∀ {ds : List D} {xs : List V} {n : Nat}, Reps T F ds xs → lays ds n = true → DpAll K F xs (pds ds)
  | [], _, _, r, _ => by cases r; exact .nil
  | _ :: _, _, _, ⟨x, r, e, a, b⟩, h => by
    subst e
    simp only [lays, Bool.and_eq_true] at h
    exact .cons (a.dp h.1) (b.dp h.2)
end
mutual
theorem Dp.le {K : PySem.W.Frag} (l : Le F H) : ∀ {v : V} {d : PyData}, Dp K F v d → Dp K H v d
  | _, _, .non => .non
  | _, _, .bl b => .bl b
  | _, _, .int i => .int i
  | _, _, .str x => .str x
  | _, _, .lst s a => .lst (SqL.le l s) (DpAll.le l a)
  | _, _, .tup s a => .tup (SqT.le l s) (DpAll.le l a)
theorem DpAll.le {K : PySem.W.Frag} (l : Le F H) : ∀ {vs : List V} {ds : List PyData}, DpAll K F vs ds → DpAll K H vs ds
  | _, _, .nil => .nil
  | _, _, .cons a b => .cons (Dp.le l a) (DpAll.le l b)
end
theorem SV.dp {K : PySem.W.Frag} (l : Le F H) : ∀ {d : D} {v : V}, SV T F H d v → lay d 60 = true → Dp K H v (pd d)
  | .lst ds, _, ⟨p, xs, e, s, r⟩, h => by subst e; exact .lst (SqL.of s) (DpAll.le l (r.dp (n := 59) (by simpa [lay] using h)))
  | .tup ds, _, r, h => Dp.le l (Rep.dp (T := T) (d := .tup ds) r h)
  | .non, _, r, h => Dp.le l (Rep.dp (T := T) (d := .non) r h)
  | .bl b, _, r, h => Dp.le l (Rep.dp (T := T) (d := .bl b) r h)
  | .int b, _, r, h => Dp.le l (Rep.dp (T := T) (d := .int b) r h)
  | .str b, _, r, h => Dp.le l (Rep.dp (T := T) (d := .str b) r h)
  | .dct _ _, _, _, h => by simp [lay] at h
  | .obj _ _, _, _, h => by simp [lay] at h
  | .scr _, _, _, h => by simp [lay] at h
/-! ### two operands -/
theorem svs2 {ds : List D} {vs : List V} (r : SVs T F H ds vs) {d e : D} (h : ds = [d, e]) : ∃ x y, vs = [x, y] ∧ SV T F H d x ∧ SV T F H e y := by
  subst h
  obtain ⟨x, _, rfl, a, y, _, rfl, b, rfl⟩ := r
  exact ⟨x, y, rfl, a, b⟩
theorem svs1 {ds : List D} {vs : List V} (r : SVs T F H ds vs) {d : D} (h : ds = [d]) : ∃ x, vs = [x] ∧ SV T F H d x := by
  subst h
  obtain ⟨x, _, rfl, a, rfl⟩ := r
  exact ⟨x, rfl, a⟩
/-- two ints to a flat value -/
def gI2 (c : Int → Int → Bool) (g : Int → Int → D) : List D → Option D
  | [.int i, .int j] => if c i j then some (g i j) else none
  | _ => none
theorem gI2_of {c : Int → Int → Bool} {g : Int → Int → D} {ds : List D} {d : D} (h : gI2 c g ds = some d) : ∃ i j, ds = [.int i, .int j] ∧ c i j = true ∧ d = g i j := by
  unfold gI2 at h
  split at h
  · split at h
    · cases h; exact ⟨_, _, rfl, by assumption, rfl⟩
    · cases h
  · cases h
theorem scI2 {c : Int → Int → Bool} {C : Int → Int → Prop} {g : Int → Int → D} {gv : Int → Int → V} (hc : ∀ i j, c i j = true → C i j) (hg : ∀ i j F, Rep T F (g i j) (gv i j)) : ScS T (r2 (rI C gv)) (gI2 c g) := fun vs ds F H Q d l r e k => by
  obtain ⟨i, j, rfl, cc, rfl⟩ := gI2_of e
  obtain ⟨x, y, rfl, a, b⟩ := svs2 r rfl
  cases a; cases b
  exact ⟨i, j, rfl, rfl, hc i j cc, k _ (hg i j F)⟩
theorem scI0 {g : Int → Int → D} {gv : Int → Int → V} (hg : ∀ i j F, Rep T F (g i j) (gv i j)) : ScS T (r2 (rI0 gv)) (gI2 (fun _ _ => true) g) := fun vs ds F H Q d l r e k => by
  obtain ⟨i, j, rfl, cc, rfl⟩ := gI2_of e
  obtain ⟨x, y, rfl, a, b⟩ := svs2 r rfl
  cases a; cases b
  exact ⟨i, j, rfl, rfl, k _ (hg i j F)⟩
/-! ### + -/
def fAdd : WF := fun cs ρ K => opt (svs ρ cs) fun ds => match ds with
  | [.int i, .int j] => K (.fz (.int (i + j))) ρ
  | [.str a, .str b] => a.length + b.length ≤ sizeLine ∧ K (.fz (.str (a ++ b))) ρ
  | [.lst a, .lst b] => a.length + b.length ≤ sizeLine ∧ K (.lst (a ++ b)) ρ
  | [.tup a, .tup b] => a.length + b.length ≤ sizeLine ∧ K (.fz (.tup (a ++ b))) ρ
  | _ => False
def rAddA (K : PySem.W.Frag) : R2 := fun x y H Q => (∃ i j, x = .int i ∧ y = .int j ∧ Q (.int (i + j)) H) ∨ (∃ i j, x = .str i ∧ y = .str j ∧ i.length + j.length ≤ sizeLine ∧ Q (.str (i ++ j)) H) ∨ rCat x y H Q ∨ rCatA K x y H Q
theorem op_addA : OpR X (binaryOp .Add) (rAddA X.K) := op_add.or (op_add_str.or (op_cat.or op_catA))
/-- new objects -/
theorem newL {ha he : Hp} {Q : VK} {K : Cell → Env → Prop} {ds : List D} {xs : List V} (g : Good T F (jn he ha) H) (e : EnvO T F ρ σ he) (r : Reps T F ds xs) (k : K (.lst ds) ρ)
    (hQ : ∀ v H', OutE T σ F (jn he ha) H K v H' → Q v H') (p : Addr) (hp : H p = none) : Q (.ref p) (upd H p (.lst xs)) := by
  refine hQ _ _ (.pre g.drop.2 g.drop.1 ?_)
  obtain ⟨a, b, c⟩ := g.drop.1.alloc (o := .lst xs) hp (fun _ z => nomatch z)
  exact ⟨.lst ds, ρ, F, he, _, a, c, b, e, .inr ⟨p, xs, rfl, rfl, r⟩, k⟩
theorem newU {ha he : Hp} {Q : VK} {K : Cell → Env → Prop} {ds : List D} {xs : List V} (g : Good T F (jn he ha) H) (e : EnvO T F ρ σ he) (r : Reps T F ds xs) (k : K (.fz (.tup ds)) ρ)
    (hQ : ∀ v H', OutE T σ F (jn he ha) H K v H' → Q v H') (p : Addr) (hp : H p = none) : Q (.ref p) (upd H p (.tup xs)) := by
  refine hQ _ _ (.pre g.drop.2 g.drop.1 ?_)
  obtain ⟨a, b⟩ := g.drop.1.allocF (o := .tup xs) hp (fun _ z => nomatch z)
  exact .pre b a (.fz (d := .tup ds) a (e.mono Le.left) ⟨p, xs, rfl, jn_right (Dis.single (g.f.non hp)) sg_at, r.mono Le.left⟩ k)

theorem opS_add {K : PySem.W.Frag} : OpS T (r2 (rAddA K)) fAdd := fun cs ρ vs σ F he ha H Q K' g dd e ro w hQ => by
  obtain ⟨ds, e1, w⟩ := opt_of w
  have r := ROs.svs g dd e ro Le.refl e1
  revert w
  split
  · intro w
    obtain ⟨x, y, rfl, a, b⟩ := svs2 r rfl
    cases a; cases b
    exact .inl ⟨_, _, rfl, rfl, hQ _ _ (.fzDrop (d := .int _) g e rfl w)⟩
  · intro w
    obtain ⟨x, y, rfl, a, b⟩ := svs2 r rfl
    cases a; cases b
    exact .inr (.inl ⟨_, _, rfl, rfl, w.1, hQ _ _ (.fzDrop (d := .str _) g e rfl w.2)⟩)
  · intro w
    obtain ⟨x, y, rfl, ⟨p, xs, rfl, hp, rx⟩, ⟨q, ys, rfl, hq, ry⟩⟩ := svs2 r rfl
    exact .inr (.inr (.inl ⟨p, q, xs, ys, rfl, rfl, hp, hq, by rw [rx.length, ry.length]; exact w.1, newL g e (rx.app ry) w.2 hQ⟩))
  · intro w
    obtain ⟨x, y, rfl, ⟨p, xs, rfl, hp, rx⟩, ⟨q, ys, rfl, hq, ry⟩⟩ := svs2 r rfl
    refine .inr (.inr (.inr ⟨p, q, xs, ys, rfl, rfl, .of (g.f _ _ hp), .of (g.f _ _ hq), by rw [rx.length, ry.length]; exact w.1, fun z => ?_, fun _ z => ?_, fun _ _ => newU g e (rx.app ry) w.2 hQ⟩))
    · subst z
      have z : _ := rx.length
      have z2 := List.eq_nil_of_length_eq_zero z.symm
      subst z2
      exact hQ _ _ (.fzDrop (d := .tup _) g e ⟨q, ys, rfl, hq, ry⟩ (by simpa using w.2))
    · subst z
      have z : _ := ry.length
      have z2 := List.eq_nil_of_length_eq_zero z.symm
      subst z2
      exact hQ _ _ (.fzDrop (d := .tup _) g e ⟨p, xs, rfl, hp, rx⟩ (by simpa using w.2))
  · exact fun w => w.elim
theorem se_add {a b : Expr} {wa wb : WE} {pos : Pos} (hk : X.K = T.K) (ha : SE T W X a wa) (hb : SE T W X b wb) : SE T W X (.BinOp a .Add b pos) (w2 fAdd wa wb) :=
  let ⟨_, a1, a2⟩ := ha.ex; let ⟨_, b1, b2⟩ := hb.ex; ⟨⟨_, pe_op op_addA a1 b1, sem_op2 a2 b2 opS_add⟩⟩
/-! ### arithmetic -/
def inW (i : Int) : Bool := decide (-(2 ^ 64) < i) && decide (i < 2 ^ 64)
def gSubI : List D → Option D := gI2 (fun _ _ => true) fun i j => .int (i - j)
def gDiv : List D → Option D := gI2 (fun _ j => decide (0 < j) && decide (j < 1073741824)) fun i j => .int (i / j)
def gMod : List D → Option D := gI2 (fun _ j => decide (0 < j)) fun i j => .int (i % j)
def gPow : List D → Option D := gI2 (fun i j => decide (0 ≤ j) && decide (j ≤ 1000000) && decide (i.natAbs < 2 ^ 64)) fun i j => .int (i ^ j.toNat)
theorem se_bin2 {op : Operator} {r : R2} {f : WF} {a b : Expr} {wa wb : WE} {pos : Pos} (ho : OpR X (binaryOp op) r) (hf : OpS T (r2 r) f) (ha : SE T W X a wa) (hb : SE T W X b wb) : SE T W X (.BinOp a op b pos) (w2 f wa wb) :=
  let ⟨_, a1, a2⟩ := ha.ex; let ⟨_, b1, b2⟩ := hb.ex; ⟨⟨_, pe_op ho a1 b1, sem_op2 a2 b2 hf⟩⟩
theorem se_sub {a b : Expr} {wa wb : WE} {pos : Pos} (ha : SE T W X a wa) (hb : SE T W X b wb) : SE T W X (.BinOp a .Sub b pos) (w2 (fS gSubI) wa wb) := se_bin2 op_sub (op_fS (scI0 fun _ _ _ => rfl)) ha hb
theorem se_div {a b : Expr} {wa wb : WE} {pos : Pos} (ha : SE T W X a wa) (hb : SE T W X b wb) : SE T W X (.BinOp a .FloorDiv b pos) (w2 (fS gDiv) wa wb) :=
  se_bin2 op_fdiv (op_fS (scI2 (fun i j h => by simpa [CDiv] using h) fun _ _ _ => rfl)) ha hb
theorem se_mod {a b : Expr} {wa wb : WE} {pos : Pos} (ha : SE T W X a wa) (hb : SE T W X b wb) : SE T W X (.BinOp a .Mod b pos) (w2 (fS gMod) wa wb) :=
  se_bin2 op_mod (op_fS (scI2 (fun i j h => by simpa using h) fun _ _ _ => rfl)) ha hb
theorem se_pow {a b : Expr} {wa wb : WE} {pos : Pos} (ha : SE T W X a wa) (hb : SE T W X b wb) : SE T W X (.BinOp a .Pow b pos) (w2 (fS gPow) wa wb) :=
  se_bin2 op_pow (op_fS (scI2 (fun i j h => by simp only [Bool.and_eq_true, decide_eq_true_eq] at h; exact ⟨h.1.1, h.1.2, h.2⟩) fun _ _ _ => rfl)) ha hb
/-- ints, a list times an int -/
def fMul : WF := fun cs ρ K => opt (svs ρ cs) fun ds => match ds with
  | [.int i, .int j] => (inW i || inW j) = true ∧ K (.fz (.int (i * j))) ρ
  | [.lst a, .int k] => k < 2 ^ 63 ∧ a.length * k.toNat ≤ sizeLine ∧ -(2 ^ 63) ≤ k ∧ K (.lst (List.replicate k.toNat a).flatten) ρ
  | _ => False
theorem Reps.rep {ds : List D} {xs : List V} (r : Reps T F ds xs) : ∀ k : Nat, Reps T F (List.replicate k ds).flatten (List.replicate k xs).flatten
  | 0 => rfl
  | k + 1 => by rw [List.replicate_succ, List.replicate_succ, List.flatten_cons, List.flatten_cons]; exact r.app (r.rep k)
theorem opS_mul : OpS T (r2 (fun x y H Q => rI CMul (fun i j => .int (i * j)) x y H Q ∨ rRep x y H Q)) fMul := fun cs ρ vs σ F he ha H Q K' g dd e ro w hQ => by
  obtain ⟨ds, e1, w⟩ := opt_of w
  have r := ROs.svs g dd e ro Le.refl e1
  revert w
  split
  · intro w
    obtain ⟨x, y, rfl, a, b⟩ := svs2 r rfl
    cases a; cases b
    exact .inl ⟨_, _, rfl, rfl, by simpa [inW, CMul] using w.1, hQ _ _ (.fzDrop (d := .int _) g e rfl w.2)⟩
  · intro w
    obtain ⟨x, y, rfl, ⟨p, xs, rfl, hp, rx⟩, b⟩ := svs2 r rfl
    cases b
    exact .inr ⟨p, _, xs, rfl, rfl, hp, w.2.2.1, w.1, by rw [rx.length]; exact w.2.1, newL g e (rx.rep _) w.2.2.2 hQ⟩
  · exact fun w => w.elim
theorem se_mul {a b : Expr} {wa wb : WE} {pos : Pos} (ha : SE T W X a wa) (hb : SE T W X b wb) : SE T W X (.BinOp a .Mult b pos) (w2 fMul wa wb) := se_bin2 (op_mul.or op_rep) opS_mul ha hb
def gNeg : List D → Option D
  | [.int i] => some (.int (-i))
  | _ => none
theorem se_neg {a : Expr} {wa : WE} {pos : Pos} (ha : SE T W X a wa) : SE T W X (.UnaryOp .USub a pos) (w1 (fS gNeg) wa) :=
  let ⟨_, a1, a2⟩ := ha.ex
  ⟨⟨_, pe_un un_neg a1, sem_op1 a2 (op_fS fun vs ds F H Q d l r e k => by
    unfold gNeg at e
    split at e
    · cases e
      obtain ⟨x, rfl, a⟩ := svs1 r rfl
      cases a
      exact ⟨_, rfl, k _ rfl⟩
    · cases e)⟩⟩
/-! ### comparisons -/
/-- a comparison: as a value, as a test -/
structure SC (T : Tabs) (W : WX) (X : Cx) (e : Expr) (w : WE) : Prop where
  ex : ∃ t, PE X e t ∧ PT X e (tB t) ∧ SemE T W t w
theorem SC.se {e : Expr} {w : WE} (h : SC T W X e w) : SE T W X e w := let ⟨t, a, _, b⟩ := h.ex; ⟨t, a, b⟩
theorem sc_cmp2 {op : CmpOp} {r : R2} {f : WF} {a b : Expr} {wa wb : WE} {pos : Pos} (ho : OpR X (compareOp op) r) (hf : OpS T (r2 r) f) (ha : SE T W X a wa) (hb : SE T W X b wb) (hm : behindInMarks op b = false) : SC T W X (.Compare a [op] [b] pos) (w2 f wa wb) :=
  let ⟨_, a1, a2⟩ := ha.ex; let ⟨_, b1, b2⟩ := hb.ex; ⟨⟨_, pe_cmpR ho a1 b1 hm, pt_cmpR ho a1 b1 hm, sem_op2 a2 b2 hf⟩⟩
def gLt : List D → Option D := gI2 (fun _ _ => true) fun i j => .bl (decide (i < j))
def gLe : List D → Option D := gI2 (fun _ _ => true) fun i j => .bl (decide (i ≤ j))
def gGt : List D → Option D := gI2 (fun _ _ => true) fun i j => .bl (decide (j < i))
def gGe : List D → Option D := gI2 (fun _ _ => true) fun i j => .bl (decide (j ≤ i))
def gEq : List D → Option D
  | [d, e] => if lay d 60 && lay e 60 then some (.bl (eqD d e)) else none
  | _ => none
def gNe : List D → Option D
  | [d, e] => if lay d 60 && lay e 60 then some (.bl (!eqD d e)) else none
  | _ => none
def isNonD : D → Bool
  | .non => true
  | _ => false
def gIsN : List D → Option D
  | [d, .non] => some (.bl (isNonD d))
  | _ => none
def gNotN : List D → Option D
  | [d, .non] => some (.bl (!isNonD d))
  | _ => none
theorem cmp_lt {a b : Expr} {wa wb : WE} {pos : Pos} (ha : SE T W X a wa) (hb : SE T W X b wb) : SC T W X (.Compare a [.Lt] [b] pos) (w2 (fS gLt) wa wb) := sc_cmp2 op_lt (op_fS (scI0 fun _ _ _ => rfl)) ha hb (nomark _)
theorem cmp_le {a b : Expr} {wa wb : WE} {pos : Pos} (ha : SE T W X a wa) (hb : SE T W X b wb) : SC T W X (.Compare a [.LtE] [b] pos) (w2 (fS gLe) wa wb) := sc_cmp2 op_le (op_fS (scI0 fun _ _ _ => rfl)) ha hb (nomark _)
theorem cmp_gt {a b : Expr} {wa wb : WE} {pos : Pos} (ha : SE T W X a wa) (hb : SE T W X b wb) : SC T W X (.Compare a [.Gt] [b] pos) (w2 (fS gGt) wa wb) := sc_cmp2 op_gt (op_fS (scI0 fun _ _ _ => rfl)) ha hb (nomark _)
theorem cmp_ge {a b : Expr} {wa wb : WE} {pos : Pos} (ha : SE T W X a wa) (hb : SE T W X b wb) : SC T W X (.Compare a [.GtE] [b] pos) (w2 (fS gGe) wa wb) := sc_cmp2 op_ge (op_fS (scI0 fun _ _ _ => rfl)) ha hb (nomark _)
theorem sc_eq {K : PySem.W.Frag} : ScS T (r2 (rEqD K)) gEq := fun vs ds F H Q d l r e k => by
  unfold gEq at e
  split at e
  · split at e
    · rename_i h
      cases e
      simp only [Bool.and_eq_true] at h
      obtain ⟨x, y, rfl, a, b⟩ := svs2 r rfl
      exact ⟨_, _, SV.dp l a h.1, SV.dp l b h.2, lay_shaped h.1, lay_shaped h.2, k _ rfl⟩
    · cases e
  · cases e
theorem sc_ne {K : PySem.W.Frag} : ScS T (r2 (rNeD K)) gNe := fun vs ds F H Q d l r e k => by
  unfold gNe at e
  split at e
  · split at e
    · rename_i h
      cases e
      simp only [Bool.and_eq_true] at h
      obtain ⟨x, y, rfl, a, b⟩ := svs2 r rfl
      exact ⟨_, _, SV.dp l a h.1, SV.dp l b h.2, lay_shaped h.1, lay_shaped h.2, k _ rfl⟩
    · cases e
  · cases e
theorem cmp_eq {a b : Expr} {wa wb : WE} {pos : Pos} (hu : X.A.units + 64 < cLine) (ha : SE T W X a wa) (hb : SE T W X b wb) : SC T W X (.Compare a [.Eq] [b] pos) (w2 (fS gEq) wa wb) := sc_cmp2 (op_eqD hu) (op_fS sc_eq) ha hb (nomark _)
theorem cmp_ne {a b : Expr} {wa wb : WE} {pos : Pos} (hu : X.A.units + 64 < cLine) (ha : SE T W X a wa) (hb : SE T W X b wb) : SC T W X (.Compare a [.NotEq] [b] pos) (w2 (fS gNe) wa wb) := sc_cmp2 (op_neD hu) (op_fS sc_ne) ha hb (nomark _)
theorem SV.isNon {d : D} {v : V} (a : SV T F H d v) : decide (v = .non) = isNonD d := by
  cases d with
  | non => cases a; rfl
  | bl _ => cases a; rfl
  | int _ => cases a; rfl
  | str _ => cases a; rfl
  | tup _ => obtain ⟨p, xs, rfl, _⟩ := a; rfl
  | lst _ => obtain ⟨p, xs, rfl, _⟩ := a; rfl
  | dct _ _ => obtain ⟨p, xs, rfl, _⟩ := a; rfl
  | obj _ _ => obtain ⟨p, _, xs, rfl, _⟩ := a; rfl
  | scr _ => obtain ⟨p, rfl, _⟩ := a; rfl
theorem cmp_isN {a b : Expr} {wa wb : WE} {pos : Pos} (ha : SE T W X a wa) (hb : SE T W X b wb) : SC T W X (.Compare a [.Is] [b] pos) (w2 (fS gIsN) wa wb) := sc_cmp2 op_isN (op_fS fun vs ds F H Q d l r e k => by
  unfold gIsN at e
  split at e
  · cases e
    obtain ⟨x, y, rfl, a, b⟩ := svs2 r rfl
    cases b
    exact ⟨rfl, by rw [a.isNon]; exact k _ rfl⟩
  · cases e) ha hb (nomark _)
theorem cmp_notN {a b : Expr} {wa wb : WE} {pos : Pos} (ha : SE T W X a wa) (hb : SE T W X b wb) : SC T W X (.Compare a [.IsNot] [b] pos) (w2 (fS gNotN) wa wb) := sc_cmp2 op_notN (op_fS fun vs ds F H Q d l r e k => by
  unfold gNotN at e
  split at e
  · cases e
    obtain ⟨x, y, rfl, a, b⟩ := svs2 r rfl
    cases b
    exact ⟨rfl, by rw [a.isNon]; exact k _ rfl⟩
  · cases e) ha hb (nomark _)
/-! ### in -/
def gIn (neg : Bool) : List D → Option D
  | [d, .lst ds] => if lay d 60 && lays ds 59 then some (.bl (if neg then !(ds.any fun z => eqD z d) else ds.any fun z => eqD z d)) else none
  | _ => none
theorem sc_in {K : PySem.W.Frag} : ScS T (r2 (rInD K)) (gIn false) := fun vs ds F H Q d l r e k => by
  unfold gIn at e
  split at e
  · rename_i d0 es
    split at e
    · rename_i h
      cases e
      simp only [Bool.and_eq_true] at h
      obtain ⟨x, y, rfl, a, b⟩ := svs2 r rfl
      have hl : lay (.lst es) 60 = true := by simpa [lay] using h.2
      refine ⟨pd d0, pds es, SV.dp l a h.1, SV.dp l b hl, lay_shaped h.1, lay_shaped hl, ?_⟩
      refine k _ ?_
      show Rep T F _ _
      simp [pds_map, List.any_map, eqD, Function.comp_def, Rep]
    · cases e
  · cases e
theorem sc_notIn {K : PySem.W.Frag} : ScS T (r2 (rNotInD K)) (gIn true) := fun vs ds F H Q d l r e k => by
  unfold gIn at e
  split at e
  · rename_i d0 es
    split at e
    · rename_i h
      cases e
      simp only [Bool.and_eq_true] at h
      obtain ⟨x, y, rfl, a, b⟩ := svs2 r rfl
      have hl : lay (.lst es) 60 = true := by simpa [lay] using h.2
      refine ⟨pd d0, pds es, SV.dp l a h.1, SV.dp l b hl, lay_shaped h.1, lay_shaped hl, ?_⟩
      refine k _ ?_
      show Rep T F _ _
      simp [pds_map, List.any_map, eqD, Function.comp_def, Rep]
    · cases e
  · cases e
theorem cmp_in {a b : Expr} {wa wb : WE} {pos : Pos} (hu : X.A.units + 65 < cLine) (ha : SE T W X a wa) (hb : SE T W X b wb) (hm : behindInMarks .In b = false := by rfl) : SC T W X (.Compare a [.In] [b] pos) (w2 (fS (gIn false)) wa wb) := sc_cmp2 (op_inD hu) (op_fS sc_in) ha hb hm
theorem cmp_notIn {a b : Expr} {wa wb : WE} {pos : Pos} (hu : X.A.units + 65 < cLine) (ha : SE T W X a wa) (hb : SE T W X b wb) (hm : behindInMarks .NotIn b = false := by rfl) : SC T W X (.Compare a [.NotIn] [b] pos) (w2 (fS (gIn true)) wa wb) := sc_cmp2 (op_notInD hu) (op_fS sc_notIn) ha hb hm
end
end CL

/-! # CL: what is frozen; tests, items, slices, displays, built-in calls -/
namespace CL
open PySem L2
mutual
def frz : Cell → Option D
  | .fz d => some d
  | .lst ds => some (.lst ds)
  | .dct ks ds => some (.dct ks ds)
  | .obj c cs => match frzs cs with
    | some ds => if (fldN c).length = ds.length then some (.obj c ds) else none
    | none => none
  | .lsc cs => match frzs cs with
    | some ds => some (.lst ds)
    | none => none
  | .un => none
  | .ali _ => none
  | .dfz _ _ => none
  | .exo _ _ _ _ => none
def frzs : List Cell → Option (List D)
  | [] => some []
  | c :: cs => match frz c, frzs cs with
    | some d, some ds => some (d :: ds)
    | _, _ => none
end
section
variable {T : Tabs} {W : WX} {X : Cx} {ρ : Env} {σ : L2.St} {F F' h h' h1 h2 ha he H H' : Hp}
theorem frzs_length : ∀ {cs : List Cell} {ds : List D}, frzs cs = some ds → ds.length = cs.length
  | [], _, e => by cases e; rfl
  | c :: cs, ds, e => by
    cases q1 : frz c with
    | none => simp [frzs, q1] at e
    | some d =>
      cases q2 : frzs cs with
      | none => simp [frzs, q1, q2] at e
      | some ds' => simp only [frzs, q1, q2] at e; cases e; simp [frzs_length q2]
mutual
theorem CO.frz : ∀ {c : Cell} {d : D} {v : V} {h : Hp}, CO T F c v h → frz c = some d → Dis F h → Rep T (jn F h) d v
  | .fz _, _, _, _, ⟨r, e⟩, q, _ => by cases q; exact r.mono Le.left
  | .lst _, _, _, _, ⟨p, xs, e, z, r⟩, q, dd => by
    cases q
    exact ⟨p, xs, e, jn_right dd (by rw [z]; exact sg_at), r.mono Le.left⟩
  | .dct _ _, _, _, _, ⟨p, xs, e, n, z, r⟩, q, dd => by
    cases q
    exact ⟨p, xs, e, jn_right dd (by rw [z]; exact sg_at), n, r.mono Le.left⟩
  | .obj c cs, d, _, h, ⟨p, dx, xs, h1, e, n1, n2, n3, n4, z, r⟩, q, dd => by
    cases q1 : frzs cs with
    | none => simp [CL.frz, q1] at q
    | some ds =>
      simp only [CL.frz, q1] at q
      split at q
      · rename_i hl
        cases q
        have hc := frzs_length q1
        have dj : Dis (sg p (HO.ins (T.cls c) dx (((fldN c).take cs.length).zip xs))) (jn (sg dx (.own p)) h1) := Dis.single' (jn_nn (sg_ne n1) n2)
        have l1 : Le h1 h := by rw [z]; exact (Le.right (Dis.single' n3)).trans (Le.right dj)
        have hr := COs.frz r q1 (fun y => (dd y).imp id fun n => l1.non n)
        refine ⟨p, dx, xs, e, jn_right dd ?_, hl, hr.mono (Le.joinM Le.refl l1 dd)⟩
        rw [z]
        have : (fldN c).take cs.length = fldN c := List.take_of_length_le (by omega)
        rw [this]
        exact jn_some sg_at
      · cases q
  | .lsc cs, d, _, h, ⟨p, xs, h1, e, n, z, r⟩, q, dd => by
    cases q1 : frzs cs with
    | none => simp [CL.frz, q1] at q
    | some ds =>
      simp only [CL.frz, q1] at q
      cases q
      have l1 : Le h1 h := by rw [z]; exact Le.right (Dis.single' n)
      have hr := COs.frz r q1 (fun y => (dd y).imp id fun n => l1.non n)
      exact ⟨p, xs, e, jn_right dd (by rw [z]; exact jn_some sg_at), hr.mono (Le.joinM Le.refl l1 dd)⟩
  | .un, _, _, _, _, q, _ => by cases q
  | .ali _, _, _, _, _, q, _ => by cases q
  | .dfz _ _, _, _, _, _, q, _ => by cases q
  | .exo _ _ _ _, _, _, _, _, q, _ => by cases q
theorem COs.frz : ∀ {cs : List Cell} {ds : List D} {vs : List V} {h : Hp}, COs T F cs vs h → frzs cs = some ds → Dis F h → Reps T (jn F h) ds vs
  | [], _, _, _, r, q, _ => by cases q; exact r.1
  | c :: cs, ds, _, h, ⟨x, r, h1, h2, e, d1, z, a, b⟩, q, dd => by
    cases q1 : CL.frz c with
    | none => simp [frzs, q1] at q
    | some d =>
      cases q2 : frzs cs with
      | none => simp [frzs, q1, q2] at q
      | some ds' =>
        simp only [frzs, q1, q2] at q
        cases q
        have l1 : Le h1 h := by rw [z]; exact Le.left
        have l2 : Le h2 h := by rw [z]; exact Le.right d1
        exact ⟨x, r, e, (CO.frz a q1 fun y => (dd y).imp id fun n => l1.non n).mono (Le.joinM Le.refl l1 dd), (COs.frz b q2 fun y => (dd y).imp id fun n => l2.non n).mono (Le.joinM Le.refl l2 dd)⟩
end
/-- a result is frozen: it, or the slot that it stands for -/
def toD (ρ : Env) (c : Cell) (K : D → Env → Prop) : Prop := match c with
  | .ali i => opt ρ[i]? fun c' => opt (frz c') fun d => K d (ρ.set i (.fz d))
  | c => opt (frz c) fun d => K d ρ
theorem toD_run {c : Cell} {v : V} {K : D → Env → Prop} (g : Good T F (jn he ha) H) (dd : Dis he ha) (e : EnvO T F ρ σ he) (r : RO T F σ c v ha) (w : toD ρ c K) :
    ∃ d ρ' F' he', Good T F' he' H ∧ Step F (jn he ha) H F' he' H ∧ EnvO T F' ρ' σ he' ∧ Rep T F' d v ∧ K d ρ' := by
  rcases r with ⟨i, rfl, hs, rfl⟩ | r
  · obtain ⟨c', q, w⟩ := opt_of w
    obtain ⟨d, q2, w⟩ := opt_of w
    obtain ⟨s, h1, h2, e1, d1, e2, a, f⟩ := e.get q
    rw [hs] at e1
    cases e1
    rw [jn_emp] at g ⊢
    subst e2
    rcases a with ⟨z, _⟩ | ⟨v', z, a⟩
    · subst z; cases q2
    · cases z
      obtain ⟨g1, s1⟩ := g.freeze d1
      have rr := a.frz q2 g.d.l
      have z := f (jn F h1) (.fz d) (some v) emp Le.left Dis.empl (.inr ⟨v, rfl, rr, rfl⟩)
      rw [emp_jn, set_self hs] at z
      exact ⟨d, _, _, _, g1, s1, z, rr, w⟩
  · have key : opt (frz c) (fun d => K d ρ) → ∃ d ρ' F' he', Good T F' he' H ∧ Step F (jn he ha) H F' he' H ∧ EnvO T F' ρ' σ he' ∧ Rep T F' d v ∧ K d ρ' := fun w => by
      obtain ⟨d, q, w⟩ := opt_of w
      rw [jn_comm dd] at g ⊢
      obtain ⟨g1, s1⟩ := g.freeze dd.symm
      exact ⟨d, ρ, _, _, g1, s1, e.mono Le.left, r.frz q g.d.l, w⟩
    cases c with
    | ali _ => exact r.elim
    | _ => exact key w
def toDs (ρ : Env) (cs : List Cell) (K : List D → Env → Prop) : Prop := match cs with
  | [] => K [] ρ
  | c :: cs => toD ρ c fun d ρ1 => toDs ρ1 cs fun ds ρ2 => K (d :: ds) ρ2
theorem toDs_run : ∀ {cs : List Cell} {vs : List V} {K : List D → Env → Prop} {ρ : Env} {F he ha : Hp}, Good T F (jn he ha) H → Dis he ha → EnvO T F ρ σ he → ROs T F σ cs vs ha → toDs ρ cs K →
    ∃ ds ρ' F' he', Good T F' he' H ∧ Step F (jn he ha) H F' he' H ∧ EnvO T F' ρ' σ he' ∧ Reps T F' ds vs ∧ K ds ρ'
  | [], vs, K, ρ, F, he, ha, g, dd, e, r, w => by
    obtain ⟨rfl, rfl⟩ := r
    rw [jn_emp] at g ⊢
    exact ⟨[], ρ, F, he, g, .refl, e, rfl, w⟩
  | c :: cs, vs, K, ρ, F, he, ha, g, dd, e, r, w => by
    obtain ⟨x, r, k1, k2, rfl, d1, rfl, a, b⟩ := r
    have g0 : Good T F (jn (jn he k1) k2) H := by rw [jn_assoc]; exact g
    have d0 : Dis (jn he k1) k2 := Dis.both' dd.r d1
    obtain ⟨d, ρ1, F1, he1, g1, s1, e1, r1, w1⟩ := toD_run g0.drop.1 dd.l e a w
    obtain ⟨g2, s2, d2⟩ := frame g0 d0 g1 s1
    obtain ⟨ds, ρ2, F2, he2, g3, s3, e3, r3, w3⟩ := toDs_run g2 d2 e1 (b.mono s1.le) w1
    rw [jn_assoc] at s2
    exact ⟨d :: ds, ρ2, F2, he2, g3, s2.trans g2.d s3, e3, ⟨x, r, rfl, r1.mono s3.le, r3⟩, w3⟩
/-! ### displays -/
def wTup (wa : WA) : WE := fun ρ K Z => wa ρ (fun cs ρ1 => cs.length ≤ 1000 ∧ toDs ρ1 cs fun ds ρ2 => K (.fz (.tup ds)) ρ2) Z
def wLst (wa : WA) : WE := fun ρ K Z => wa ρ (fun cs ρ1 => cs.length ≤ 1000 ∧ toDs ρ1 cs fun ds ρ2 => K (.lst ds) ρ2) Z
/-- a list of owned items -/
def wLsc (wa : WA) : WE := fun ρ K Z => wa ρ (fun cs ρ1 => cs.length ≤ 1000 ∧ (∀ c ∈ cs, ∀ i, c ≠ .ali i) ∧ K (.lsc cs) ρ1) Z
theorem ROs.length : ∀ {cs : List Cell} {vs : List V} {h : Hp}, ROs T F σ cs vs h → vs.length = cs.length
  | [], _, _, r => by cases r.1; rfl
  | _ :: _, _, _, ⟨_, _, _, _, e, _, _, _, b⟩ => by subst e; simp [b.length]
theorem line1000 {n : Nat} (h : n ≤ 1000) : n ≤ sizeLine := Nat.le_trans h (by decide)
theorem sem_tup {t : TA} {wa : WA} (a : SemA T W t wa) : SemE T W (tTup t) (wTup wa) := fun ρ σ F h H Q K Z g e w hQ hZ => by
  refine a ρ σ F h H _ _ Z g e w (fun vs H1 o => ?_) hZ
  obtain ⟨cs, ρ1, F1, k1, k2, g1, d1, s1, e1, r1, hl, w1⟩ := o
  obtain ⟨ds, ρ2, F2, he2, g2, s2, e2, r2, w2⟩ := toDs_run g1 d1 e1 r1 w1
  refine ⟨by rw [r1.length]; exact line1000 hl, fun p hp => hQ _ _ (.pre s1 g1 (.pre s2 g2 ?_))⟩
  obtain ⟨a, b⟩ := g2.allocF (o := .tup vs) hp (fun _ z => nomatch z)
  exact .pre b a (.fz (d := .tup ds) a (e2.mono Le.left) ⟨p, vs, rfl, jn_right (Dis.single (g2.f.non hp)) sg_at, r2.mono Le.left⟩ w2)
theorem sem_lst {t : TA} {wa : WA} (a : SemA T W t wa) : SemE T W (tLst t) (wLst wa) := fun ρ σ F h H Q K Z g e w hQ hZ => by
  refine a ρ σ F h H _ _ Z g e w (fun vs H1 o => ?_) hZ
  obtain ⟨cs, ρ1, F1, k1, k2, g1, d1, s1, e1, r1, hl, w1⟩ := o
  obtain ⟨ds, ρ2, F2, he2, g2, s2, e2, r2, w2⟩ := toDs_run g1 d1 e1 r1 w1
  refine ⟨by rw [r1.length]; exact line1000 hl, fun p hp => hQ _ _ (.pre s1 g1 (.pre s2 g2 ?_))⟩
  obtain ⟨a, b, c⟩ := g2.alloc (o := .lst vs) hp (fun _ z => nomatch z)
  exact ⟨.lst ds, ρ2, F2, he2, _, a, c, b, e2, .inr ⟨p, vs, rfl, rfl, r2⟩, w2⟩
theorem se_tup {es : List Expr} {wa : WA} {pos : Pos} {x1} (a : SA T W X es wa) : SE T W X (.Tuple es x1 pos) (wTup wa) := let ⟨_, a1, a2⟩ := a.ex; ⟨⟨_, pe_tup a1, sem_tup a2⟩⟩
theorem se_lst {es : List Expr} {wa : WA} {pos : Pos} (a : SA T W X es wa) : SE T W X (.List es pos) (wLst wa) := let ⟨_, a1, a2⟩ := a.ex; ⟨⟨_, pe_lst a1, sem_lst a2⟩⟩
def wDict0 : WE := fun ρ K _ => K (.dct [] []) ρ
theorem se_dict0 {pos : Pos} : SE T W X (.Dict [] [] pos) wDict0 := ⟨⟨_, pe_dnewK, fun ρ σ F h H Q K Z g e w hQ hZ p hp => by
  obtain ⟨a, b, c⟩ := g.alloc (o := .dK []) hp (fun _ z => nomatch z)
  exact hQ _ _ ⟨.dct [] [], ρ, F, h, _, a, c, b, e, .inr ⟨p, [], rfl, rfl, rfl, rfl⟩, w⟩⟩⟩
/-! ### tests -/
def wB (w : WE) : WT := fun ρ K Z => w ρ (fun c ρ' => match c with
  | .fz (.bl b) => K b ρ'
  | _ => False) Z
theorem sem_B {t : TE} {w : WE} (a : SemE T W t w) : SemT T W (tB t) (wB w) := fun ρ σ F h H Q K Z g e w hQ hZ => by
  refine a ρ σ F h H _ _ Z g e w (fun v H1 o => ?_) hZ
  obtain ⟨c, ρ1, F1, k1, k2, g1, d1, s1, e1, r1, w1⟩ := o
  revert w1
  split
  · intro w1
    rcases r1 with ⟨_, z, _⟩ | ⟨r1, rfl⟩
    · cases z
    · cases r1
      rw [jn_emp] at g1 s1
      exact ⟨_, rfl, hQ _ _ ⟨ρ1, F1, k1, g1, s1, e1, w1⟩⟩
  · exact fun w => w.elim
theorem st_val {e : Expr} {w : WE} (a : SE T W X e w) (he : ∀ whole, isTrue e X.env whole = (do let v ← whole; standAt e.pos; holding [v] (truthy v)) := by intro _; rfl) : ST T W X e (wB w) :=
  let ⟨_, a1, a2⟩ := a.ex; ⟨⟨_, pt_val a1 he, sem_B a2⟩⟩
theorem SC.st {e : Expr} {w : WE} (h : SC T W X e w) : ST T W X e (wB w) := let ⟨_, _, a, b⟩ := h.ex; ⟨⟨_, a, sem_B b⟩⟩
def wAnd (wa wb : WT) : WT := fun ρ K Z => wa ρ (fun b ρ1 => if b = true then wb ρ1 K Z else K false ρ1) Z
def wOr (wa wb : WT) : WT := fun ρ K Z => wa ρ (fun b ρ1 => if b = true then K true ρ1 else wb ρ1 K Z) Z
def wNot (wa : WT) : WT := fun ρ K Z => wa ρ (fun b ρ1 => K (!b) ρ1) Z
theorem sem_and {t u : TT} {wa wb : WT} (a : SemT T W t wa) (b : SemT T W u wb) : SemT T W (tAnd t u) (wAnd wa wb) := fun ρ σ F h H Q K Z g e w hQ hZ => by
  refine a ρ σ F h H _ _ Z g e w (fun c H1 o => ?_) hZ
  obtain ⟨ρ1, F1, k1, g1, s1, e1, w1⟩ := o
  cases c with
  | true => exact b ρ1 σ F1 k1 H1 _ _ Z g1 e1 w1 (fun v H2 o => hQ v H2 (.pre s1 g1 o)) (fun cls d H2 o => hZ cls d H2 (.pre s1 g1 o))
  | false => exact hQ _ _ ⟨ρ1, F1, k1, g1, s1, e1, w1⟩
theorem sem_or {t u : TT} {wa wb : WT} (a : SemT T W t wa) (b : SemT T W u wb) : SemT T W (tOr t u) (wOr wa wb) := fun ρ σ F h H Q K Z g e w hQ hZ => by
  refine a ρ σ F h H _ _ Z g e w (fun c H1 o => ?_) hZ
  obtain ⟨ρ1, F1, k1, g1, s1, e1, w1⟩ := o
  cases c with
  | false => exact b ρ1 σ F1 k1 H1 _ _ Z g1 e1 w1 (fun v H2 o => hQ v H2 (.pre s1 g1 o)) (fun cls d H2 o => hZ cls d H2 (.pre s1 g1 o))
  | true => exact hQ _ _ ⟨ρ1, F1, k1, g1, s1, e1, w1⟩
theorem sem_not {t : TT} {wa : WT} (a : SemT T W t wa) : SemT T W (tNot t) (wNot wa) := fun ρ σ F h H Q K Z g e w hQ hZ => by
  refine a ρ σ F h H _ _ Z g e w (fun c H1 o => ?_) hZ
  obtain ⟨ρ1, F1, k1, g1, s1, e1, w1⟩ := o
  exact hQ _ _ ⟨ρ1, F1, k1, g1, s1, e1, w1⟩
variable {a b : Expr} {es rest : List Expr} {pos : Pos} {wa wb : WT}
theorem sw_and1 (h : ST T W X a wa) : SW T W X (.BoolOp .And [a] pos) wa := let ⟨_, a1, a2⟩ := h.ex; ⟨⟨_, pw_and1 a1, a2⟩⟩
theorem sw_or1 (h : ST T W X a wa) : SW T W X (.BoolOp .Or [a] pos) wa := let ⟨_, a1, a2⟩ := h.ex; ⟨⟨_, pw_or1 a1, a2⟩⟩
theorem sw_and (h : ST T W X a wa) (k : SW T W X (.BoolOp .And (b :: rest) pos) wb) : SW T W X (.BoolOp .And (a :: b :: rest) pos) (wAnd wa wb) := let ⟨_, a1, a2⟩ := h.ex; let ⟨_, b1, b2⟩ := k.ex; ⟨⟨_, pw_and a1 b1, sem_and a2 b2⟩⟩
theorem sw_or (h : ST T W X a wa) (k : SW T W X (.BoolOp .Or (b :: rest) pos) wb) : SW T W X (.BoolOp .Or (a :: b :: rest) pos) (wOr wa wb) := let ⟨_, a1, a2⟩ := h.ex; let ⟨_, b1, b2⟩ := k.ex; ⟨⟨_, pw_or a1 b1, sem_or a2 b2⟩⟩
theorem st_not (h : ST T W X a wa) : ST T W X (.UnaryOp .Not a pos) (wNot wa) := let ⟨_, a1, a2⟩ := h.ex; ⟨⟨_, pt_not a1, sem_not a2⟩⟩
/-- as values -/
def wAndV (wa wb : WE) : WE := fun ρ K Z => wa ρ (fun c ρ1 => match c with
  | .fz (.bl b) => if b = true then wb ρ1 K Z else K (.fz (.bl false)) ρ1
  | _ => False) Z
def wOrV (wa wb : WE) : WE := fun ρ K Z => wa ρ (fun c ρ1 => match c with
  | .fz (.bl b) => if b = true then K (.fz (.bl true)) ρ1 else wb ρ1 K Z
  | _ => False) Z
def wNotV (wa : WE) : WE := fun ρ K Z => wa ρ (fun c ρ1 => match c with
  | .fz (.bl b) => K (.fz (.bl (!b))) ρ1
  | _ => False) Z
theorem sem_andV {t u : TE} {wa wb : WE} (a : SemE T W t wa) (b : SemE T W u wb) : SemE T W (tAndV t u) (wAndV wa wb) := fun ρ σ F h H Q K Z g e w hQ hZ => by
  refine a ρ σ F h H _ _ Z g e w (fun c H1 o => ?_) hZ
  obtain ⟨c, ρ1, F1, k1, k2, g1, d1, s1, e1, r1, w1⟩ := o
  revert w1
  split
  · rename_i b0
    intro w1
    rcases r1 with ⟨_, z, _⟩ | ⟨r1, rfl⟩
    · cases z
    · cases r1
      rw [jn_emp] at g1 s1
      refine ⟨_, rfl, ?_⟩
      cases b0 with
      | true => exact b ρ1 σ F1 k1 H1 _ _ Z g1 e1 w1 (fun v H2 o => hQ v H2 (.pre s1 g1 o)) (fun cls d H2 o => hZ cls d H2 (.pre s1 g1 o))
      | false => exact hQ _ _ (.pre s1 g1 (.fz (d := .bl false) g1 e1 rfl w1))
  · exact fun w => w.elim
theorem sem_orV {t u : TE} {wa wb : WE} (a : SemE T W t wa) (b : SemE T W u wb) : SemE T W (tOrV t u) (wOrV wa wb) := fun ρ σ F h H Q K Z g e w hQ hZ => by
  refine a ρ σ F h H _ _ Z g e w (fun c H1 o => ?_) hZ
  obtain ⟨c, ρ1, F1, k1, k2, g1, d1, s1, e1, r1, w1⟩ := o
  revert w1
  split
  · rename_i b0
    intro w1
    rcases r1 with ⟨_, z, _⟩ | ⟨r1, rfl⟩
    · cases z
    · cases r1
      rw [jn_emp] at g1 s1
      refine ⟨_, rfl, ?_⟩
      cases b0 with
      | false => exact b ρ1 σ F1 k1 H1 _ _ Z g1 e1 w1 (fun v H2 o => hQ v H2 (.pre s1 g1 o)) (fun cls d H2 o => hZ cls d H2 (.pre s1 g1 o))
      | true => exact hQ _ _ (.pre s1 g1 (.fz (d := .bl true) g1 e1 rfl w1))
  · exact fun w => w.elim
theorem sem_notV {t : TE} {wa : WE} (a : SemE T W t wa) : SemE T W (tNotV t) (wNotV wa) := fun ρ σ F h H Q K Z g e w hQ hZ => by
  refine a ρ σ F h H _ _ Z g e w (fun c H1 o => ?_) hZ
  obtain ⟨c, ρ1, F1, k1, k2, g1, d1, s1, e1, r1, w1⟩ := o
  revert w1
  split
  · rename_i b0
    intro w1
    rcases r1 with ⟨_, z, _⟩ | ⟨r1, rfl⟩
    · cases z
    · cases r1
      rw [jn_emp] at g1 s1
      exact ⟨_, rfl, hQ _ _ (.pre s1 g1 (.fz (d := .bl (!b0)) g1 e1 rfl w1))⟩
  · exact fun w => w.elim
theorem se_one {op} {w : WE} (h : SE T W X a w) : SE T W X (.BoolOp op [a] pos) w := let ⟨_, a1, a2⟩ := h.ex; ⟨⟨_, pe_one a1, a2⟩⟩
theorem se_and {va vb : WE} (h : SE T W X a va) (k : SE T W X (.BoolOp .And (b :: rest) pos) vb) : SE T W X (.BoolOp .And (a :: b :: rest) pos) (wAndV va vb) := let ⟨_, a1, a2⟩ := h.ex; let ⟨_, b1, b2⟩ := k.ex; ⟨⟨_, pe_and a1 b1, sem_andV a2 b2⟩⟩
theorem se_or {va vb : WE} (h : SE T W X a va) (k : SE T W X (.BoolOp .Or (b :: rest) pos) vb) : SE T W X (.BoolOp .Or (a :: b :: rest) pos) (wOrV va vb) := let ⟨_, a1, a2⟩ := h.ex; let ⟨_, b1, b2⟩ := k.ex; ⟨⟨_, pe_or a1 b1, sem_orV a2 b2⟩⟩
theorem se_not {va : WE} (h : SE T W X a va) : SE T W X (.UnaryOp .Not a pos) (wNotV va) := let ⟨_, a1, a2⟩ := h.ex; ⟨⟨_, pe_not a1, sem_notV a2⟩⟩
/-- a if t else b -/
def wIfE (t : WT) (wa wb : WE) : WE := fun ρ K Z => t ρ (fun c ρ1 => if c = true then wa ρ1 K Z else wb ρ1 K Z) Z
theorem sem_ifE {t : TT} {u v : TE} {wt : WT} {wa wb : WE} (c : SemT T W t wt) (a : SemE T W u wa) (b : SemE T W v wb) : SemE T W (tIf t u v) (wIfE wt wa wb) := fun ρ σ F h H Q K Z g e w hQ hZ => by
  refine c ρ σ F h H _ _ Z g e w (fun c H1 o => ?_) hZ
  obtain ⟨ρ1, F1, k1, g1, s1, e1, w1⟩ := o
  cases c with
  | true => exact a ρ1 σ F1 k1 H1 _ _ Z g1 e1 w1 (fun v H2 o => hQ v H2 (.pre s1 g1 o)) (fun cls d H2 o => hZ cls d H2 (.pre s1 g1 o))
  | false => exact b ρ1 σ F1 k1 H1 _ _ Z g1 e1 w1 (fun v H2 o => hQ v H2 (.pre s1 g1 o)) (fun cls d H2 o => hZ cls d H2 (.pre s1 g1 o))
theorem se_ifE {t : Expr} {wt : WT} {va vb : WE} (c : ST T W X t wt) (h : SE T W X a va) (k : SE T W X b vb) : SE T W X (.IfExp t a b pos) (wIfE wt va vb) := let ⟨_, c1, c2⟩ := c.ex; let ⟨_, a1, a2⟩ := h.ex; let ⟨_, b1, b2⟩ := k.ex; ⟨⟨_, pe_ifExp c1 a1 b1, sem_ifE c2 a2 b2⟩⟩
end
end CL

/-! # CL: chains, dicts, items, slices, built-in calls, methods of lists -/
namespace CL
open PySem L2
section
variable {T : Tabs} {W : WX} {X : Cx} {ρ : Env} {σ : L2.St} {F F' h h' h1 h2 ha he H H' : Hp}
/-! ### a <= b < c, of ints -/
def wChain (p q : Int → Int → Bool) (wa wb wc : WE) : WE := fun ρ K Z => wa ρ (fun c1 ρ1 => wb ρ1 (fun c2 ρ2 => match c1, c2 with
  | .fz (.int i), .fz (.int j) => if p i j = true then wc ρ2 (fun c3 ρ3 => match c3 with
      | .fz (.int k) => K (.fz (.bl (q j k))) ρ3
      | _ => False) Z else K (.fz (.bl false)) ρ2
  | _, _ => False) Z) Z
theorem RO.int {v : V} {i : Int} (r : RO T F σ (.fz (.int i)) v h) : v = .int i ∧ h = emp := by
  rcases r with ⟨_, z, _⟩ | r
  · cases z
  · exact ⟨r.1, r.2⟩
theorem sem_chain {p q : Int → Int → Bool} {ta tb tc : TE} {wa wb wc : WE} (a : SemE T W ta wa) (b : SemE T W tb wb) (c : SemE T W tc wc) :
    SemE T W (tChain (rI0 fun i j => .bl (p i j)) (rI0 fun i j => .bl (q i j)) ta tb tc) (wChain p q wa wb wc) := fun ρ σ F h H Q K Z g e w hQ hZ => by
  refine a ρ σ F h H _ _ Z g e w (fun x H1 o => ?_) hZ
  obtain ⟨c1, ρ1, F1, k1, k2, g1, d1, s1, e1, r1, w1⟩ := o
  obtain ⟨gd, sd⟩ := g1.drop
  refine b ρ1 σ F1 k1 H1 _ _ Z gd e1 w1 (fun y H2 o => ?_) (fun cls d H2 o => hZ cls d H2 (.pre s1 g1 (.pre sd gd o)))
  obtain ⟨c2, ρ2, F2, l1, l2, g2, d2, s2, e2, r2, w2⟩ := o
  revert w2
  split
  · rename_i i j
    intro w2
    obtain ⟨rfl, rfl⟩ := r1.int
    obtain ⟨rfl, rfl⟩ := r2.int
    rw [jn_emp] at g1 s1 g2 s2 sd
    have s12 := s1.trans g1.d s2
    refine ⟨i, j, rfl, rfl, _, rfl, ?_⟩
    cases hp : p i j with
    | false =>
      rw [hp] at w2
      exact hQ _ _ (.pre s12 g2 (.fz (d := .bl false) g2 e2 rfl w2))
    | true =>
      rw [hp] at w2
      refine c ρ2 σ F2 l1 H2 _ _ Z g2 e2 w2 (fun z H3 o => ?_) (fun cls d H3 o => hZ cls d H3 (.pre s12 g2 o))
      obtain ⟨c3, ρ3, F3, m1, m2, g3, d3, s3, e3, r3, w3⟩ := o
      revert w3
      split
      · rename_i k
        intro w3
        obtain ⟨rfl, rfl⟩ := r3.int
        rw [jn_emp] at g3 s3
        exact ⟨j, k, rfl, rfl, hQ _ _ (.pre (s12.trans g2.d s3) g3 (.fz (d := .bl (q j k)) g3 e3 rfl w3))⟩
      · exact fun w => w.elim
  · exact fun w => w.elim
variable {a b c : Expr} {es : List Expr} {pos : Pos} {wa wb wc : WE}
theorem cmp_chain {op op' : CmpOp} {p q : Int → Int → Bool} (ho : OpR X (compareOp op) (rI0 fun i j => .bl (p i j))) (ho' : OpR X (compareOp op') (rI0 fun i j => .bl (q i j))) (ha : SE T W X a wa) (hb : SE T W X b wb) (hc : SE T W X c wc)
    (hm : lastMarks [op, op'] [b, c] = false := by with_unfolding_all rfl) : SC T W X (.Compare a [op, op'] [b, c] pos) (wChain p q wa wb wc) :=
  let ⟨_, a1, a2⟩ := ha.ex; let ⟨_, b1, b2⟩ := hb.ex; let ⟨_, c1, c2⟩ := hc.ex; ⟨⟨_, pe_chain ho ho' a1 b1 c1 hm, pt_chain ho ho' a1 b1 c1 hm, sem_chain a2 b2 c2⟩⟩
/-! ### in, of flat things in a tuple or a list -/
def flatD : D → Bool
  | .non => true
  | .bl _ => true
  | .int _ => true
  | .str _ => true
  | _ => false
theorem flat_rep {d : D} {v : V} (r : Rep T F d v) (h : flatD d = true) : flatV v = true := by
  cases d <;> first | (cases r; rfl) | cases h
theorem flat_eq {d e : D} {v u : V} (r : Rep T F d v) (q : Rep T F e u) (h : flatD d = true) (h' : flatD e = true) : eqV v u = eqD d e := by
  have no : ∀ {P : Prop}, false = true → P := fun z => nomatch z
  cases d <;> first | exact no h | (cases r; cases e <;> first | exact no h' | (cases q; simp [eqV, eqD, pd, PyData.eqv]))
theorem Reps.flat : ∀ {ds : List D} {xs : List V}, Reps T F ds xs → ds.all flatD = true → xs.all flatV = true
  | [], _, r, _ => by cases r; rfl
  | d :: ds, _, ⟨x, r, e, a, b⟩, h => by
    subst e
    simp only [List.all_cons, Bool.and_eq_true] at h ⊢
    exact ⟨flat_rep a h.1, b.flat h.2⟩
theorem Reps.inV {d : D} {v : V} (r : Rep T F d v) (h : flatD d = true) : ∀ {ds : List D} {xs : List V}, Reps T F ds xs → ds.all flatD = true → inV v xs = ds.any fun z => eqD z d
  | [], _, q, _ => by cases q; rfl
  | e :: ds, _, ⟨x, q, ex, a, b⟩, hh => by
    subst ex
    simp only [List.all_cons, Bool.and_eq_true] at hh
    have ih := Reps.inV r h b hh.2
    unfold L2.inV at ih ⊢
    rw [List.any_cons, List.any_cons, ih, flat_eq a r hh.1 h]
def gInU (neg : Bool) : List D → Option D
  | [d, .tup ds] => if flatD d && ds.all flatD then some (.bl (if neg then !(ds.any fun z => eqD z d) else ds.any fun z => eqD z d)) else none
  | [d, .lst ds] => if flatD d && ds.all flatD then some (.bl (if neg then !(ds.any fun z => eqD z d) else ds.any fun z => eqD z d)) else none
  | _ => none
theorem sc_inU {K : PySem.W.Frag} {neg : Bool} : ScS T (r2 (rIn K neg)) (gInU neg) := fun vs ds F H Q d l r e k => by
  unfold gInU at e
  split at e
  · split at e
    · rename_i h
      cases e
      simp only [Bool.and_eq_true] at h
      obtain ⟨x, y, rfl, a, ⟨p, xs, rfl, hp, rx⟩⟩ := svs2 r rfl
      rename_i d0 es
      have a' : Rep T F d0 x := by
        cases d0 <;> first | exact a | cases h.1
      exact ⟨p, xs, rfl, .inr (.of (l _ _ hp)), flat_rep a' h.1, rx.flat h.2, by rw [Reps.inV a' h.1 rx h.2]; exact k _ rfl⟩
    · cases e
  · split at e
    · rename_i h
      cases e
      simp only [Bool.and_eq_true] at h
      obtain ⟨x, y, rfl, a, ⟨p, xs, rfl, hp, rx⟩⟩ := svs2 r rfl
      rename_i d0 es
      have a' : Rep T F d0 x := by
        cases d0 <;> first | exact a | cases h.1
      exact ⟨p, xs, rfl, .inl (.of hp), flat_rep a' h.1, rx.flat h.2, by rw [Reps.inV a' h.1 rx h.2]; exact k _ rfl⟩
    · cases e
  · cases e
theorem cmp_inU (ha : SE T W X a wa) (hb : SE T W X b wb) (hm : behindInMarks .In b = false := by rfl) : SC T W X (.Compare a [.In] [b] pos) (w2 (fS (gInU false)) wa wb) := sc_cmp2 op_in_seq (op_fS sc_inU) ha hb hm
theorem cmp_notInU (ha : SE T W X a wa) (hb : SE T W X b wb) (hm : behindInMarks .NotIn b = false := by rfl) : SC T W X (.Compare a [.NotIn] [b] pos) (w2 (fS (gInU true)) wa wb) := sc_cmp2 op_notIn_seq (op_fS sc_inU) ha hb hm
/-! ### dicts -/
def kd : D → Option Key
  | .int i => some (.inl i)
  | .str s => some (.inr s)
  | _ => none
def dlk (ks : List Key) (ds : List D) (k : Key) : Option D := ((ks.zip ds).find? fun kv => decide (kv.1 = k)).map (·.2)
def hasK (ks : List Key) (k : Key) : Bool := ks.any fun j => decide (j = k)
def dputK (ks : List Key) (k : Key) : List Key := if hasK ks k = true then ks else ks ++ [k]
def dputD {α : Type} (ks : List Key) (ds : List α) (k : Key) (d : α) : List α := if hasK ks k = true then (ks.zip ds).map (fun kv => if kv.1 = k then d else kv.2) else ds ++ [d]
theorem kd_rep {d : D} {v : V} {k : Key} (r : SV T F H d v) (h : kd d = some k) : v = kV k := by
  cases d <;> first | (cases h; cases r; rfl) | cases h
theorem dlk_val : ∀ {ks : List Key} {ds : List D} {xs : List V} (k : Key), Reps T F ds xs → ks.length = ds.length →
    (dlk ks ds k = none ∧ valV (ks.zip xs) k = none) ∨ ∃ d x, dlk ks ds k = some d ∧ valV (ks.zip xs) k = some x ∧ Rep T F d x
  | [], _, _, k, _, _ => .inl ⟨rfl, rfl⟩
  | k0 :: ks, [], _, k, _, hl => by cases hl
  | k0 :: ks, d :: ds, _, k, ⟨x, r, e, a, b⟩, hl => by
    subst e
    by_cases q : k0 = k
    · subst q
      exact .inr ⟨d, x, by simp [dlk], by simp [valV], a⟩
    · rcases dlk_val (ks := ks) k b (by simpa using hl) with ⟨h1, h2⟩ | ⟨d', x', h1, h2, h3⟩
      · exact .inl ⟨by simpa [dlk, q] using h1, by simpa [valV, q] using h2⟩
      · exact .inr ⟨d', x', by simpa [dlk, q] using h1, by simpa [valV, q] using h2, h3⟩
theorem zip_any : ∀ {ks : List Key} {xs : List V} (k : Key), ks.length = xs.length → ((ks.zip xs).any fun kv => decide (kv.1 = k)) = hasK ks k
  | [], _, _, _ => by simp [hasK]
  | _ :: _, [], _, hl => by cases hl
  | k0 :: ks, x :: xs, k, hl => by
    have ih := zip_any (ks := ks) (xs := xs) k (by simpa using hl)
    rw [List.zip_cons_cons, List.any_cons, ih]
    simp [hasK]
theorem zip_put {ks : List Key} {xs : List V} {k : Key} {v : V} (hl : ks.length = xs.length) : putK (ks.zip xs) k v = (dputK ks k).zip (dputD ks xs k v) := by
  unfold putK dputK dputD
  rw [zip_any k hl]
  by_cases q : hasK ks k = true
  · rw [if_pos q, if_pos q, if_pos q]
    clear q
    revert xs
    induction ks with
    | nil => intro xs _; rfl
    | cons k0 ks ih =>
      intro xs hl
      cases xs with
      | nil => cases hl
      | cons x xs =>
        have z := ih (xs := xs) (by simpa using hl)
        simp only [List.zip_cons_cons, List.map_cons]
        rw [z]
        by_cases e : k0 = k <;> simp [e]
  · rw [if_neg q, if_neg q, if_neg q]
    rw [List.zip_append hl]
    rfl
theorem Reps.put {ks : List Key} {ds : List D} {xs : List V} {k : Key} {d : D} {v : V} (r : Reps T F ds xs) (hl : ks.length = ds.length) (rv : Rep T F d v) : Reps T F (dputD ks ds k d) (dputD ks xs k v) := by
  unfold dputD
  by_cases q : hasK ks k = true
  · rw [if_pos q, if_pos q]
    clear q
    revert ds xs
    induction ks with
    | nil => intro ds xs r hl; rfl
    | cons k0 ks ih =>
      intro ds xs r hl
      cases ds with
      | nil => cases hl
      | cons d0 ds =>
        obtain ⟨x, xs, rfl, a, b⟩ := r
        refine ⟨_, _, rfl, ?_, ih b (by simpa using hl)⟩
        by_cases e : k0 = k
        · simpa [e] using rv
        · simpa [e] using a
  · rw [if_neg q, if_neg q]
    exact r.snoc rv
theorem dput_length {ks : List Key} {ds : List D} {k : Key} {d : D} (hl : ks.length = ds.length) : (dputK ks k).length = (dputD ks ds k d).length := by
  unfold dputK dputD
  split
  · simp [hl]
  · simp [hl]
/-- d[k] -/
def fDGet : WF := fun cs ρ K => opt (svs ρ cs) fun ds => match ds with
  | [.dct ks es, k] => opt (kd k) fun k' => opt (dlk ks es k') fun d => K (.fz d) ρ
  | _ => False
theorem sem_dget {ta tb : TE} (a : SemE T W ta wa) (b : SemE T W tb wb) : SemE T W (tDGet ta tb) (w2 fDGet wa wb) :=
  sem_op2 (r := fun x y H Q => ∃ a v, x = .ref a ∧ DGet H a y (some v) ∧ Q v H) a b fun cs ρ vs σ F he ha H Q K g dd e ro w hQ => by
    obtain ⟨ds, e1, w⟩ := opt_of w
    have r := ROs.svs g dd e ro Le.refl e1
    revert w
    split
    · intro w
      obtain ⟨k', ek, w⟩ := opt_of w
      obtain ⟨d, ed, w⟩ := opt_of w
      obtain ⟨x, y, rfl, ⟨p, xs, rfl, hp, hl, rx⟩, by'⟩ := svs2 r rfl
      obtain rfl := kd_rep by' ek
      rcases dlk_val k' rx hl with ⟨z, _⟩ | ⟨d', x', h1, h2, h3⟩
      · rw [z] at ed; cases ed
      · rw [h1] at ed
        cases ed
        refine ⟨p, x', rfl, ?_, hQ _ _ (.fzDrop g e h3 w)⟩
        rw [← h2]
        exact DGet.k hp
    · exact fun w => w.elim
theorem se_dget (hu : X.A.units + 1 < cLine) (ha : SE T W X a wa) (hb : SE T W X b wb) (hs : NoSl b := by exact fun _ _ => rfl) : SE T W X (.Subscript a b pos) (w2 fDGet wa wb) :=
  let ⟨_, a1, a2⟩ := ha.ex; let ⟨_, b1, b2⟩ := hb.ex; ⟨⟨_, pe_dget hu a1 b1 hs, sem_dget a2 b2⟩⟩
def gDIn (neg : Bool) : List D → Option D
  | [k, .dct ks es] => (kd k).map fun k' => .bl (if neg then !(dlk ks es k').isSome else (dlk ks es k').isSome)
  | _ => none
theorem sem_din {ta tb : TE} (a : SemE T W ta wa) (b : SemE T W tb wb) : SemE T W (tDIn ta tb) (w2 (fS (gDIn false)) wa wb) :=
  sem_op2 (r := fun y x H Q => ∃ a o, x = .ref a ∧ DGet H a y o ∧ Q (.bl o.isSome) H) a b (op_fS fun vs ds F H Q d l r e k => by
    unfold gDIn at e
    split at e
    · rename_i k0 ks es
      cases ek : kd k0 with
      | none => rw [ek] at e; cases e
      | some k' =>
        rw [ek] at e
        cases e
        obtain ⟨x, y, rfl, ax, ⟨p, xs, rfl, hp, hl, rx⟩⟩ := svs2 r rfl
        obtain rfl := kd_rep ax ek
        refine ⟨p, _, rfl, DGet.k hp, k _ ?_⟩
        rcases dlk_val k' rx hl with ⟨h1, h2⟩ | ⟨d', x', h1, h2, h3⟩
        · simp [Rep, h1, h2]
        · simp [Rep, h1, h2]
    · cases e)
theorem sem_dnotin {ta tb : TE} (a : SemE T W ta wa) (b : SemE T W tb wb) : SemE T W (tDNotIn ta tb) (w2 (fS (gDIn true)) wa wb) :=
  sem_op2 (r := fun y x H Q => ∃ a o, x = .ref a ∧ DGet H a y o ∧ Q (.bl (!o.isSome)) H) a b (op_fS fun vs ds F H Q d l r e k => by
    unfold gDIn at e
    split at e
    · rename_i k0 ks es
      cases ek : kd k0 with
      | none => rw [ek] at e; cases e
      | some k' =>
        rw [ek] at e
        cases e
        obtain ⟨x, y, rfl, ax, ⟨p, xs, rfl, hp, hl, rx⟩⟩ := svs2 r rfl
        obtain rfl := kd_rep ax ek
        refine ⟨p, _, rfl, DGet.k hp, k _ ?_⟩
        rcases dlk_val k' rx hl with ⟨h1, h2⟩ | ⟨d', x', h1, h2, h3⟩
        · simp [Rep, h1, h2]
        · simp [Rep, h1, h2]
    · cases e)
theorem cmp_din (hu : X.A.units + 1 < cLine) (ha : SE T W X a wa) (hb : SE T W X b wb) (hm : behindInMarks .In b = false := by rfl) : SC T W X (.Compare a [.In] [b] pos) (w2 (fS (gDIn false)) wa wb) :=
  let ⟨_, a1, a2⟩ := ha.ex; let ⟨_, b1, b2⟩ := hb.ex; ⟨⟨_, pe_cmp (pc_din hu a1 b1) hm, pt_cmp (pc_din hu a1 b1) hm, sem_din a2 b2⟩⟩
theorem cmp_dnotin (hu : X.A.units + 1 < cLine) (ha : SE T W X a wa) (hb : SE T W X b wb) (hm : behindInMarks .NotIn b = false := by rfl) : SC T W X (.Compare a [.NotIn] [b] pos) (w2 (fS (gDIn true)) wa wb) :=
  let ⟨_, a1, a2⟩ := ha.ex; let ⟨_, b1, b2⟩ := hb.ex; ⟨⟨_, pe_cmp (pc_dnotin hu a1 b1) hm, pt_cmp (pc_dnotin hu a1 b1) hm, sem_dnotin a2 b2⟩⟩
/-! ### items -/
theorem atI_map {α β : Type} (f : α → β) (xs : List α) (i : Int) : atI (xs.map f) i = (atI xs i).map f := by
  unfold atI
  rw [List.length_map]
  cases ixN xs.length i with
  | none => rfl
  | some j => simp
theorem Reps.atI {ds : List D} {xs : List V} {i : Int} {d : D} (r : Reps T F ds xs) (h : L2.atI ds i = some d) : ∃ x, L2.atI xs i = some x ∧ Rep T F d x := by
  unfold L2.atI at h ⊢
  rw [r.length]
  cases q : ixN ds.length i with
  | none => rw [q] at h; cases h
  | some j =>
    rw [q] at h
    exact r.get h
def fIx : WF := fun cs ρ K => opt (svs ρ cs) fun ds => match ds with
  | [.lst es, .int i] => opt (atI es i) fun d => K (.fz d) ρ
  | [.tup es, .int i] => opt (atI es i) fun d => K (.fz d) ρ
  | [.scr ns, .int i] => opt (atI ns i) fun n => K (.fz (.int n)) ρ
  | [.str z, .int i] => z.length ≤ sizeLine ∧ opt (atI z.cps.toList i) fun c => K (.fz (.str ⟨#[c]⟩)) ρ
  | _ => False
theorem opS_ix : OpS T (r2 (rIx T.K)) fIx := fun cs ρ vs σ F he ha H Q K g dd e ro w hQ => by
  obtain ⟨ds, e1, w⟩ := opt_of w
  have r := ROs.svs g dd e ro Le.refl e1
  revert w
  split
  · intro w
    obtain ⟨d, ed, w⟩ := opt_of w
    obtain ⟨x, y, rfl, ⟨p, xs, rfl, hp, rx⟩, b⟩ := svs2 r rfl
    cases b
    obtain ⟨v, hv, rv⟩ := rx.atI ed
    exact .inl ⟨p, xs, _, v, rfl, rfl, .of hp, hv, hQ _ _ (.fzDrop g e rv w)⟩
  · intro w
    obtain ⟨d, ed, w⟩ := opt_of w
    obtain ⟨x, y, rfl, ⟨p, xs, rfl, hp, rx⟩, b⟩ := svs2 r rfl
    cases b
    obtain ⟨v, hv, rv⟩ := rx.atI ed
    exact .inr (.inl ⟨p, xs, _, v, rfl, rfl, .of (g.f _ _ hp), hv, hQ _ _ (.fzDrop g e rv w)⟩)
  · intro w
    obtain ⟨n, ed, w⟩ := opt_of w
    obtain ⟨x, y, rfl, ⟨p, rfl, hp⟩, b⟩ := svs2 r rfl
    cases b
    exact .inl ⟨p, _, _, .int n, rfl, rfl, SqL.le g.f hp, by rw [atI_map, ed]; rfl, hQ _ _ (.fzDrop (d := .int n) g e rfl w)⟩
  · intro w
    obtain ⟨hl, w⟩ := w
    obtain ⟨c, ed, w⟩ := opt_of w
    obtain ⟨x, y, rfl, a, b⟩ := svs2 r rfl
    cases a
    cases b
    exact .inr (.inr ⟨_, _, c, rfl, rfl, hl, ed, hQ _ _ (.fzDrop (d := .str _) g e rfl w)⟩)
  · exact fun w => w.elim
theorem se_ix (hk : X.K = T.K) (ha : SE T W X a wa) (hb : SE T W X b wb) (hs : PlainIx b := by exact fun _ _ => rfl) : SE T W X (.Subscript a b pos) (w2 fIx wa wb) :=
  let ⟨_, a1, a2⟩ := ha.ex; let ⟨_, b1, b2⟩ := hb.ex; ⟨⟨_, pe_ix ix_seq a1 b1 hs, sem_op2 a2 b2 (by rw [hk]; exact opS_ix)⟩⟩
/-! ### slices -/
abbrev WO := Env → (Option Int → Env → Prop) → KX → Prop
def SemO (T : Tabs) (W : WX) (t : TO) (w : WO) : Prop := ∀ ρ σ F h H Q K Z, Good T F h H → EnvO T F ρ σ h → w ρ K Z →
  (∀ v H', (∃ ρ' F' h1, Good T F' h1 H' ∧ Step F h H F' h1 H' ∧ EnvO T F' ρ' σ h1 ∧ K v ρ') → Q v H') → (∀ cls d H', OutX T σ F h H Z cls d H' → W cls d σ H') → t σ H Q
structure SO (T : Tabs) (W : WX) (X : Cx) (e : Option Expr) (w : WO) : Prop where
  ex : ∃ t, PO X e t ∧ SemO T W t w
def wNo : WO := fun ρ K _ => K none ρ
def wSo (w : WE) : WO := fun ρ K Z => w ρ (fun c ρ' => match c with
  | .fz (.int i) => K (some i) ρ'
  | _ => False) Z
theorem so_no : SO T W X none wNo := ⟨⟨_, po_none, fun ρ σ F h H Q K Z g e w hQ hZ => hQ none H ⟨ρ, F, h, g, .refl, e, w⟩⟩⟩
theorem so_so (ha : SE T W X a wa) : SO T W X (some a) (wSo wa) := let ⟨_, a1, a2⟩ := ha.ex
  ⟨⟨_, po_some a1, fun ρ σ F h H Q K Z g e w hQ hZ => by
    refine a2 ρ σ F h H _ _ Z g e w (fun x H1 o => ?_) hZ
    obtain ⟨c1, ρ1, F1, k1, k2, g1, d1, s1, e1, r1, w1⟩ := o
    revert w1
    split
    · intro w1
      obtain ⟨rfl, rfl⟩ := r1.int
      rw [jn_emp] at g1 s1
      exact ⟨_, rfl, hQ _ _ ⟨ρ1, F1, k1, g1, s1, e1, w1⟩⟩
    · exact fun w => w.elim⟩⟩
def cutA {α : Type} (xs : List α) (lo hi : Option Int) : List α := (xs.drop (HT.sIx xs.length 0 lo)).take (HT.sIx xs.length xs.length hi - HT.sIx xs.length 0 lo)
theorem cutV_cutA (xs : List V) (lo hi : Option Int) : cutV xs lo hi = cutA xs lo hi := rfl
theorem Reps.cut {ds : List D} {xs : List V} (r : Reps T F ds xs) (lo hi : Option Int) : Reps T F (cutA ds lo hi) (cutA xs lo hi) := by
  unfold cutA
  rw [r.length]
  exact (r.drop _).take _
def fSl (o : Option D) (lo hi : Option Int) (ρ : Env) (K : Cell → Env → Prop) : Prop := match o with
  | some (.lst ds) => K (.lst (cutA ds lo hi)) ρ
  | some (.tup ds) => K (.fz (.tup (cutA ds lo hi))) ρ
  | some (.str z) => z.length ≤ sizeLine ∧ K (.fz (.str (cutS z lo hi))) ρ
  | _ => False
def wSl (wa : WE) (wl wh : WO) : WE := fun ρ K Z => wa ρ (fun c ρ1 => wl ρ1 (fun lo ρ2 => wh ρ2 (fun hi ρ3 => fSl (sv ρ3 c) lo hi ρ3 K) Z) Z) Z
theorem cutA_whole {α : Type} {xs : List α} {lo hi : Option Int} (h : HT.sIx xs.length 0 lo = 0 ∧ HT.sIx xs.length xs.length hi = xs.length) : cutA xs lo hi = xs := by
  unfold cutA
  rw [h.1, h.2]
  simp
theorem sem_sl {ta : TE} {tl th : TO} {wl wh : WO} (a : SemE T W ta wa) (l : SemO T W tl wl) (u : SemO T W th wh) :
    SemE T W (tSl (fun x lo hi H Q => rSlL T.K x lo hi H Q ∨ rSlA T.K x lo hi H Q ∨ rSlS x lo hi H Q) ta tl th) (wSl wa wl wh) := fun ρ σ F h H Q K Z g e w hQ hZ => by
  refine a ρ σ F h H _ _ Z g e w (fun x H1 o => ?_) hZ
  obtain ⟨c, ρ1, F1, k1, k2, g1, d1, s1, e1, r1, w1⟩ := o
  obtain ⟨gd, sd⟩ := g1.drop
  refine l ρ1 σ F1 k1 H1 _ _ Z gd e1 w1 (fun lo H2 o => ?_) (fun cls d H2 o => hZ cls d H2 (.pre s1 g1 (.pre sd gd o)))
  obtain ⟨ρ2, F2, l1, g2, s2, e2, w2⟩ := o
  refine u ρ2 σ F2 l1 H2 _ _ Z g2 e2 w2 (fun hi H3 o => ?_) (fun cls d H3 o => hZ cls d H3 (.pre s1 g1 (.pre sd gd (.pre s2 g2 o))))
  obtain ⟨ρ3, F3, m1, g3, s3, e3, w3⟩ := o
  obtain ⟨g4, s4, d4⟩ := frame g1 d1 g3 (s2.trans g2.d s3)
  have hQ' : ∀ v H', OutE T σ F3 (jn m1 k2) H3 K v H' → Q v H' := fun v H' o => hQ v H' (.pre s1 g1 (.pre s4 g4 o))
  have rr := r1.mono (s2.le.trans s3.le)
  cases q : sv ρ3 c with
  | none => rw [q] at w3; exact w3.elim
  | some d =>
    rw [q] at w3
    have r := RO.sv g4 d4 e3 rr q
    revert w3
    unfold fSl
    split
    · rename_i ds eq
      cases eq
      intro w3
      obtain ⟨p, xs, rfl, hp, rx⟩ := r
      exact .inl ⟨p, xs, rfl, .of hp, newL g4 e3 (rx.cut lo hi) w3 hQ'⟩
    · rename_i ds eq
      cases eq
      intro w3
      obtain ⟨p, xs, rfl, hp, rx⟩ := r
      refine .inr (.inl ⟨p, xs, rfl, .of (g4.f _ _ hp), fun hw => ?_, fun _ => newU g4 e3 (rx.cut lo hi) w3 hQ'⟩)
      rw [cutA_whole (by rw [rx.length] at hw; exact hw)] at w3
      exact hQ' _ _ (.fzDrop (d := .tup ds) g4 e3 ⟨p, xs, rfl, hp, rx⟩ w3)
    · rename_i z eq
      cases eq
      intro w3
      cases r
      exact .inr (.inr ⟨z, rfl, w3.1, hQ' _ _ (.fzDrop (d := .str _) g4 e3 rfl w3.2)⟩)
    · exact fun w => w.elim
theorem se_sl {lo hi : Option Expr} {wl wh : WO} {p2 : Pos} (hk : X.K = T.K) (ha : SE T W X a wa) (hl : SO T W X lo wl) (hh : SO T W X hi wh) : SE T W X (.Subscript a (.Slice lo hi none p2) pos) (wSl wa wl wh) :=
  let ⟨_, a1, a2⟩ := ha.ex; let ⟨_, l1, l2⟩ := hl.ex; let ⟨_, h1, h2⟩ := hh.ex
  ⟨⟨_, pe_slice (sl_list.or (sl_tupA.or sl_str)) a1 l1 h1, by rw [hk]; exact sem_sl a2 l2 h2⟩⟩
/-- xs[::-1] -/
def gRev : List D → Option (List D)
  | [.lst ds] => some ds.reverse
  | _ => none
theorem se_rev {k : Nat} {p1 p2 p3 : Pos} (hk : X.K = T.K) (ha : SE T W X a wa) : SE T W X (.Subscript a (.Slice none none (some (.UnaryOp .USub (.Constant (.int 1) k p1) p2)) p3) pos) (w1 (fL gRev) wa) :=
  let ⟨_, a1, a2⟩ := ha.ex
  ⟨⟨_, pe_revL a1, sem_op (r := r1 fun x H Q => ∃ a xs, x = .ref a ∧ SqL X.K H a xs ∧ ∀ p, H p = none → Q (.ref p) (upd H p (.lst xs.reverse))) (sem_cons a2 sem_nil) (op_fL fun vs ds F H Q d l r e k => by
    unfold gRev at e
    split at e
    · cases e
      obtain ⟨x, rfl, ⟨p, xs, rfl, hp, rx⟩⟩ := svs1 r rfl
      exact ⟨p, xs, rfl, .of hp, fun q hq => k q _ hq rx.rev⟩
    · cases e)⟩⟩
/-! ### built-in calls -/
theorem se_callB {id : String} {x : Str} {r : List V → Hp → VK → Prop} {f : WF} {wr : WA} {p : Pos} (hc : CallR X (.builtin id) r) (hf : OpS T r f) (hm : X.mg x = none) (hv : bootBuiltins x = some (.builtin id)) (ha : SA T W X (a :: es) wr) (hg : Gl X x := by rfl) (hn : x ≠ "__name__" := by decide) (hdb : (x == ("__debug__" : Str)) = false := by decide)
    (he : starEach (a :: es) X.env = (false, eval a X.env) :: starEach es X.env := by rfl) (hpl : (backTo pos (starEach es X.env)).any (·.1) = false := by rfl) : SE T W X (.Call (.Name x p) (a :: es) [] pos) (wF f wr) :=
  let ⟨_, a1, a2⟩ := ha.ex; ⟨⟨_, pe_callB hc hg hm hv a1 hn hdb he hpl, sem_op a2 hf⟩⟩
theorem se_callTy {id : String} {x : Str} {r : List V → Hp → VK → Prop} {f : WF} {wr : WA} {p : Pos} (hc : CallR X (.type id) r) (hf : OpS T r f) (hm : X.mg x = none) (hv : bootBuiltins x = some (.type id)) (ha : SA T W X (a :: es) wr) (hg : Gl X x := by rfl) (hn : x ≠ "__name__" := by decide) (hdb : (x == ("__debug__" : Str)) = false := by decide)
    (he : starEach (a :: es) X.env = (false, eval a X.env) :: starEach es X.env := by rfl) (hpl : (backTo pos (starEach es X.env)).any (·.1) = false := by rfl) : SE T W X (.Call (.Name x p) (a :: es) [] pos) (wF f wr) :=
  let ⟨_, a1, a2⟩ := ha.ex; ⟨⟨_, pe_callTy hc hg hm hv a1 hn hdb he hpl, sem_op a2 hf⟩⟩
def gLen : List D → Option D
  | [.lst ds] => some (.int ds.length)
  | [.tup ds] => some (.int ds.length)
  | [.scr ns] => some (.int ns.length)
  | [.dct ks _] => some (.int ks.length)
  | [.str z] => if z.length ≤ sizeLine then some (.int z.length) else none
  | _ => none
end
end CL

/-! # CL: statements -/
namespace CL
open PySem L2
/-- what is wanted behind a statement -/
structure Ks where
  nx : Env → Prop
  rt : Cell → Env → Prop
  bk : Env → Prop
  ct : Env → Prop
  xc : KX
abbrev WS := Env → Ks → Prop
def Ag (P : List Nat) (σ σ' : L2.St) : Prop := ∀ i ∈ P, σ'[i]? = σ[i]?
theorem Ag.refl {P : List Nat} {σ : L2.St} : Ag P σ σ := fun _ _ => rfl
theorem Ag.trans {P : List Nat} {σ σ' σ'' : L2.St} (a : Ag P σ σ') (b : Ag P σ' σ'') : Ag P σ σ'' := fun i h => (b i h).trans (a i h)
theorem Ag.set {P : List Nat} {σ : L2.St} {i : Nat} {s : Option V} (h : i ∉ P) : Ag P σ (σ.set i s) := fun j hj => by
  have ne : i ≠ j := fun e => h (e ▸ hj)
  rw [List.getElem?_set_ne ne]
section
variable (T : Tabs) (W : WX) (P : List Nat)
def AtS (σ : L2.St) (F h H : Hp) (n : Env → Prop) (σ' : L2.St) (H' : Hp) : Prop :=
  ∃ ρ' F' h', Good T F' h' H' ∧ Step F h H F' h' H' ∧ EnvO T F' ρ' σ' h' ∧ Ag P σ σ' ∧ n ρ'
/-- what the ends must give -/
structure Cont (σ : L2.St) (F h H : Hp) (E : Ends) (k : Ks) : Prop where
  nx : ∀ σ' H', AtS T P σ F h H k.nx σ' H' → E.nx σ' H'
  bk : ∀ σ' H', AtS T P σ F h H k.bk σ' H' → E.bk σ' H'
  ct : ∀ σ' H', AtS T P σ F h H k.ct σ' H' → E.ct σ' H'
  rt : ∀ v H', (∃ c ρ' σ' F' h1 h2, Good T F' (jn h1 h2) H' ∧ Dis h1 h2 ∧ Step F h H F' (jn h1 h2) H' ∧ EnvO T F' ρ' σ' h1 ∧ CO T F' c v h2 ∧ Ag P σ σ' ∧ k.rt c ρ') → E.rt v H'
  xc : ∀ cls d σ' H', (∃ x ρ' F' h1 h2, Good T F' (jn h1 h2) H' ∧ Dis h1 h2 ∧ Step F h H F' (jn h1 h2) H' ∧ EnvO T F' ρ' σ' h1 ∧ XO T F' x cls d h2 ∧ Ag P σ σ' ∧ k.xc x ρ') → W cls d σ' H'
def SemS (t : TS) (w : WS) : Prop := ∀ ρ σ F h H E k, Good T F h H → EnvO T F ρ σ h → w ρ k → Cont T W P σ F h H E k → t E σ H
variable (X : Cx)
structure SS (st : Stmt) (w : WS) : Prop where
  ex : ∃ t, PS X st t ∧ SemS T W P t w
structure SB (sts : List Stmt) (w : WS) : Prop where
  ex : ∃ t, PSs X sts t ∧ SemS T W P t w
end
section
variable {T : Tabs} {W : WX} {X : Cx} {P : List Nat} {ρ ρ' : Env} {σ σ' : L2.St} {F F' h h' h1 h2 ha he H H' H'' : Hp} {E : Ends} {k : Ks} {wa wb wc : WE}
theorem AtS.pre {n : Env → Prop} (s : Step F h H F' h' H') (g : Good T F' h' H') (a : Ag P σ σ') {σ'' : L2.St} (x : AtS T P σ' F' h' H' n σ'' H'') : AtS T P σ F h H n σ'' H'' :=
  let ⟨ρ', F2, h2, g2, s2, e2, a2, n2⟩ := x; ⟨ρ', F2, h2, g2, s.trans g.d s2, e2, a.trans a2, n2⟩
theorem Cont.from (c : Cont T W P σ F h H E k) (s : Step F h H F' h' H') (g : Good T F' h' H') (a : Ag P σ σ') : Cont T W P σ' F' h' H' E k where
  nx := fun _ _ x => c.nx _ _ (.pre s g a x)
  bk := fun _ _ x => c.bk _ _ (.pre s g a x)
  ct := fun _ _ x => c.ct _ _ (.pre s g a x)
  rt := fun v H' ⟨c', ρ', σ', F2, h1, h2, g2, d2, s2, e2, r2, a2, k2⟩ => c.rt v H' ⟨c', ρ', σ', F2, h1, h2, g2, d2, s.trans g.d s2, e2, r2, a.trans a2, k2⟩
  xc := fun cls d σ' H' ⟨x, ρ', F2, h1, h2, g2, d2, s2, e2, r2, a2, k2⟩ => c.xc cls d σ' H' ⟨x, ρ', F2, h1, h2, g2, d2, s.trans g.d s2, e2, r2, a.trans a2, k2⟩
theorem Cont.xe (c : Cont T W P σ F h H E k) : ∀ cls d H', OutX T σ F h H k.xc cls d H' → W cls d σ H' := fun cls d H' ⟨x, ρ', F2, h1, h2, g2, d2, s2, e2, r2, k2⟩ =>
  c.xc cls d σ H' ⟨x, ρ', F2, h1, h2, g2, d2, s2, e2, r2, Ag.refl, k2⟩
/-! ### blocks -/
def wSkip : WS := fun ρ k => k.nx ρ
def wSeq (a b : WS) : WS := fun ρ k => a ρ { k with nx := fun ρ' => b ρ' k }
theorem sem_seq {t u : TS} {a b : WS} (ha : SemS T W P t a) (hb : SemS T W P u b) : SemS T W P (tSeq t u) (wSeq a b) := fun ρ σ F h H E k g e w c => by
  refine ha ρ σ F h H _ _ g e w ⟨fun σ' H' x => ?_, c.bk, c.ct, c.rt, c.xc⟩
  obtain ⟨ρ', F', h', g', s', e', a', w'⟩ := x
  exact hb ρ' σ' F' h' H' _ _ g' e' w' (c.from s' g' a')
theorem sb_nil : SB T W P X [] wSkip := ⟨⟨_, pss_nil, fun ρ σ F h H E k g e w c => c.nx _ _ ⟨ρ, F, h, g, .refl, e, .refl, w⟩⟩⟩
theorem sb_cons {st : Stmt} {rest : List Stmt} {a b : WS} (h1 : SS T W P X st a) (h2 : SB T W P X rest b) : SB T W P X (st :: rest) (wSeq a b) := let ⟨_, a1, a2⟩ := h1.ex; let ⟨_, b1, b2⟩ := h2.ex; ⟨⟨_, pss_cons a1 b1, sem_seq a2 b2⟩⟩
theorem sb_one {st : Stmt} {a : WS} (h1 : SS T W P X st a) : SB T W P X [st] a := let ⟨_, a1, a2⟩ := h1.ex; ⟨⟨_, pss_one a1, a2⟩⟩
theorem ss_pass {pos : Pos} : SS T W P X (.Pass pos) wSkip := ⟨⟨_, ps_pass, fun ρ σ F h H E k g e w c => c.nx _ _ ⟨ρ, F, h, g, .refl, e, .refl, w⟩⟩⟩
/-! ### expressions as statements, return, if -/
def wExpr (w : WE) : WS := fun ρ k => w ρ (fun _ ρ' => k.nx ρ') k.xc
theorem sem_expr {t : TE} (a : SemE T W t wa) : SemS T W P (tDrop t) (wExpr wa) := fun ρ σ F h H E k g e w c => by
  refine a ρ σ F h H _ _ _ g e w (fun v H1 o => ?_) c.xe
  obtain ⟨c1, ρ1, F1, k1, k2, g1, d1, s1, e1, r1, w1⟩ := o
  obtain ⟨gd, sd⟩ := g1.drop
  exact c.nx _ _ ⟨ρ1, F1, k1, gd, s1.trans g1.d sd, e1, .refl, w1⟩
theorem ss_expr {e : Expr} {pos : Pos} (a : SE T W X e wa) (hs : swapsWith e none pos.line X.env = pure false := by rfl) : SS T W P X (.Expr e pos) (wExpr wa) := let ⟨_, a1, a2⟩ := a.ex; ⟨⟨_, ps_expr a1 hs, sem_expr a2⟩⟩
def wRet (w : WE) : WS := fun ρ k => w ρ (fun c ρ' => match c with
  | .ali j => opt ρ'[j]? fun c' => k.rt c' (ρ'.set j .un)
  | c => k.rt c ρ') k.xc
theorem sem_ret {t : TE} (a : SemE T W t wa) : SemS T W P (tRet t) (wRet wa) := fun ρ σ F h H E k g e w c => by
  refine a ρ σ F h H _ _ _ g e w (fun v H1 o => ?_) c.xe
  obtain ⟨c1, ρ1, F1, k1, k2, g1, d1, s1, e1, r1, w1⟩ := o
  rcases r1 with ⟨i, rfl, hs, rfl⟩ | r1
  · obtain ⟨c', q, w1⟩ := opt_of w1
    obtain ⟨s, l1, l2, x1, x2, x3, x4, f⟩ := e1.get q
    rw [hs] at x1
    cases x1
    rw [jn_emp] at g1 s1
    subst x3
    have z := f F1 .un (some v) emp Le.refl Dis.empl (.inl ⟨rfl, rfl⟩)
    rw [emp_jn, set_self hs] at z
    rw [jn_comm x2] at g1 s1
    rcases x4 with ⟨zz, zh⟩ | ⟨v', ev, a⟩
    · subst zz
      subst zh
      exact c.rt v H1 ⟨.un, _, σ, F1, l2, emp, g1, Dis.empr, s1, z, rfl, .refl, w1⟩
    · cases ev
      exact c.rt v H1 ⟨c', _, σ, F1, l2, l1, g1, x2.symm, s1, z, a, .refl, w1⟩
  · have key : k.rt c1 ρ1 → E.rt v H1 := fun w1 => c.rt v H1 ⟨c1, ρ1, σ, F1, k1, k2, g1, d1, s1, e1, r1, .refl, w1⟩
    cases c1 with
    | ali _ => exact r1.elim
    | _ => exact key w1
theorem ss_ret {e : Expr} {pos : Pos} (a : SE T W X e wa) : SS T W P X (.Return (some e) pos) (wRet wa) := let ⟨_, a1, a2⟩ := a.ex; ⟨⟨_, ps_ret a1, sem_ret a2⟩⟩
def wIf (t : WT) (a b : WS) : WS := fun ρ k => t ρ (fun c ρ' => if c = true then a ρ' k else b ρ' k) k.xc
theorem sem_if {t : TT} {u v : TS} {wt : WT} {a b : WS} (hc : SemT T W t wt) (ha : SemS T W P u a) (hb : SemS T W P v b) : SemS T W P (tIfS t u v) (wIf wt a b) := fun ρ σ F h H E k g e w c => by
  refine hc ρ σ F h H _ _ _ g e w (fun b0 H1 o => ?_) c.xe
  obtain ⟨ρ1, F1, k1, g1, s1, e1, w1⟩ := o
  cases b0 with
  | true => exact ha ρ1 σ F1 k1 H1 _ _ g1 e1 w1 (c.from s1 g1 .refl)
  | false => exact hb ρ1 σ F1 k1 H1 _ _ g1 e1 w1 (c.from s1 g1 .refl)
theorem ss_if {c : Expr} {x y : List Stmt} {pos : Pos} {wt : WT} {a b : WS} (hc : ST T W X c wt) (ha : SB T W P X x a) (hb : SB T W P X y b) : SS T W P X (.If c x y pos) (wIf wt a b) :=
  let ⟨_, c1, c2⟩ := hc.ex; let ⟨_, a1, a2⟩ := ha.ex; let ⟨_, b1, b2⟩ := hb.ex; ⟨⟨_, ps_if c1 a1 b1, sem_if c2 a2 b2⟩⟩
/-! ### stores -/
/-- a result at rest: what stands for a slot is frozen -/
def rest (ρ : Env) (c : Cell) (K : Cell → Env → Prop) : Prop := match c with
  | .ali j => toD ρ (.ali j) fun d ρ' => K (.fz d) ρ'
  | c => K c ρ
theorem rest_run {c : Cell} {v : V} {K : Cell → Env → Prop} (g : Good T F (jn he ha) H) (dd : Dis he ha) (e : EnvO T F ρ σ he) (r : RO T F σ c v ha) (w : rest ρ c K) :
    ∃ c' ρ' F' h1 h2, Good T F' (jn h1 h2) H ∧ Dis h1 h2 ∧ Step F (jn he ha) H F' (jn h1 h2) H ∧ EnvO T F' ρ' σ h1 ∧ CO T F' c' v h2 ∧ K c' ρ' := by
  rcases r with ⟨i, rfl, hs, rfl⟩ | r
  · obtain ⟨d, ρ', F', he', g', s', e', r', w'⟩ := toD_run g dd e (.inl ⟨i, rfl, hs, rfl⟩) w
    exact ⟨.fz d, ρ', F', he', emp, by rw [jn_emp]; exact g', Dis.empr, by rw [jn_emp (a := he')]; exact s', e', ⟨r', rfl⟩, w'⟩
  · have key : K c ρ → ∃ c' ρ' F' h1 h2, Good T F' (jn h1 h2) H ∧ Dis h1 h2 ∧ Step F (jn he ha) H F' (jn h1 h2) H ∧ EnvO T F' ρ' σ h1 ∧ CO T F' c' v h2 ∧ K c' ρ' := fun w => ⟨c, ρ, F, he, ha, g, dd, .refl, e, r, w⟩
    cases c with
    | ali _ => exact r.elim
    | _ => exact key w
/-- a slot is stored -/
theorem EnvO.store {c : Cell} {v : V} {i : Nat} (g : Good T F (jn he ha) H) (dd : Dis he ha) (e : EnvO T F ρ σ he) (r : CO T F c v ha) (hi : i < ρ.length) :
    ∃ h', Good T F h' H ∧ Step F (jn he ha) H F h' H ∧ EnvO T F (ρ.set i c) (σ.set i (some v)) h' := by
  obtain ⟨s, l1, l2, x1, x2, x3, x4, f⟩ := e.get (i := i) (c := ρ[i]) (by simp [hi])
  subst x3
  have e2 : jn (jn l1 l2) ha = jn (jn ha l2) l1 := by rw [jn_comm dd, jn_comm x2, jn_assoc]
  rw [e2] at g ⊢
  obtain ⟨gd, sd⟩ := g.drop
  exact ⟨jn ha l2, gd, sd, f F c (some v) ha Le.refl dd.r'.symm (.inr ⟨v, rfl, r⟩)⟩
def wSet (i : Nat) (w : WE) : WS := fun ρ k => w ρ (fun c ρ1 => rest ρ1 c fun c' ρ2 => i < ρ2.length ∧ k.nx (ρ2.set i c')) k.xc
theorem sem_set {t : TE} {i : Nat} (hP : i ∉ P) (a : SemE T W t wa) : SemS T W P (tAsg t (gName i)) (wSet i wa) := fun ρ σ F h H E k g e w c => by
  refine a ρ σ F h H _ _ _ g e w (fun v H1 o => ?_) c.xe
  obtain ⟨c1, ρ1, F1, k1, k2, g1, d1, s1, e1, r1, w1⟩ := o
  obtain ⟨c2, ρ2, F2, l1, l2, g2, d2, s2, e2, r2, hi, w2⟩ := rest_run g1 d1 e1 r1 w1
  obtain ⟨h3, g3, s3, e3⟩ := EnvO.store g2 d2 e2 r2 hi
  exact c.nx _ _ ⟨_, F2, h3, g3, (s1.trans g1.d s2).trans g2.d s3, e3, Ag.set hP, w2⟩
theorem ss_set (i : Nat) {x : Str} {e : Expr} {pos pos' : Pos} (hN : X.N.Nodup) (a : SE T W X e wa) (hi : X.N[i]? = some x := by rfl) (hx : Loc X.env.scope x := by first | exact .inl rfl | exact .inr rfl) (hP : i ∉ P := by first | decide | exact List.not_mem_nil) (hs : swapsWith e (some (.Name x pos')) pos.line X.env = pure false := by rfl)
    (hf : X.fn x = true ∨ X.env.scope.names.lookup x = some .local := by first | exact .inl rfl | exact .inr rfl) : SS T W P X (.Assign [.Name x pos'] e pos) (wSet i wa) :=
  let ⟨_, a1, a2⟩ := a.ex; ⟨⟨_, ps_set hN hi hx a1 hs hf, sem_set hP a2⟩⟩
/-! ### targets -/
abbrev WG := D → Env → (Env → Prop) → Prop
def SemG (T : Tabs) (P : List Nat) (t : TG) (w : WG) : Prop := ∀ v d ρ σ F h H Q K, Good T F h H → EnvO T F ρ σ h → Rep T F d v → w d ρ K → (∀ σ', AtS T P σ F h H K σ' H → Q σ' H) → t v σ H Q
structure SG (T : Tabs) (P : List Nat) (X : Cx) (tg : Expr) (w : WG) : Prop where
  ex : ∃ t, PG X tg t ∧ SemG T P t w
def gN (i : Nat) : WG := fun d ρ K => i < ρ.length ∧ K (ρ.set i (.fz d))
theorem semg_name {i : Nat} (hP : i ∉ P) : SemG T P (gName i) (gN i) := fun v d ρ σ F h H Q K g e r w hQ => by
  obtain ⟨hi, w⟩ := w
  have g' : Good T F (jn h emp) H := by rw [jn_emp]; exact g
  obtain ⟨h3, g3, s3, e3⟩ := EnvO.store (c := .fz d) g' Dis.empr e ⟨r, rfl⟩ hi
  rw [jn_emp] at s3
  exact hQ _ ⟨_, F, h3, g3, s3, e3, Ag.set hP, w⟩
theorem sg_name (i : Nat) {x : Str} {pos : Pos} (hN : X.N.Nodup) (hi : X.N[i]? = some x := by rfl) (hx : Loc X.env.scope x := by first | exact .inl rfl | exact .inr rfl) (hP : i ∉ P := by first | decide | exact List.not_mem_nil) (hf : X.fn x = true ∨ X.env.scope.names.lookup x = some .local := by first | exact .inl rfl | exact .inr rfl) : SG T P X (.Name x pos) (gN i) :=
  ⟨⟨_, pg_name hN hi hx hf, semg_name hP⟩⟩
abbrev WGs := List D → Env → (Env → Prop) → Prop
def SemGs (T : Tabs) (P : List Nat) (t : TGs) (w : WGs) : Prop := ∀ vs ds ρ σ F h H Q K, Good T F h H → EnvO T F ρ σ h → Reps T F ds vs → w ds ρ K → (∀ σ', AtS T P σ F h H K σ' H → Q σ' H) → t vs σ H Q
structure SGs (T : Tabs) (P : List Nat) (X : Cx) (tg : List Expr) (w : WGs) : Prop where
  ex : ∃ t, PGs X tg t ∧ SemGs T P t w
def gsN : WGs := fun ds ρ K => ds = [] ∧ K ρ
def gsC (g : WG) (r : WGs) : WGs := fun ds ρ K => match ds with
  | d :: ds => g d ρ fun ρ' => r ds ρ' K
  | [] => False
theorem sgs_nil : SGs T P X [] gsN := ⟨⟨_, pgs_nil, fun vs ds ρ σ F h H Q K g e r w hQ => by
  obtain ⟨rfl, w⟩ := w
  cases r
  exact ⟨rfl, hQ _ ⟨ρ, F, h, g, .refl, e, .refl, w⟩⟩⟩⟩
theorem sgs_cons {x : Expr} {xs : List Expr} {g : WG} {r : WGs} (a : SG T P X x g) (b : SGs T P X xs r) (ho : (assignEach (x :: xs) X.env).map (·.2) = assign x X.env :: (assignEach xs X.env).map (·.2) := by rfl) : SGs T P X (x :: xs) (gsC g r) := let ⟨_, a1, a2⟩ := a.ex; let ⟨_, b1, b2⟩ := b.ex
  ⟨⟨_, pgs_cons a1 b1 ho, fun vs ds ρ σ F h H Q K g0 e rr w hQ => by
    cases ds with
    | nil => exact w.elim
    | cons d ds =>
      obtain ⟨v, vs, rfl, r1, r2⟩ := rr
      refine ⟨v, vs, rfl, a2 v d ρ σ F h H _ _ g0 e r1 w fun σ' o => ?_⟩
      obtain ⟨ρ1, F1, h1, g1, s1, e1, x1, w1⟩ := o
      exact b2 vs ds ρ1 σ' F1 h1 H _ _ g1 e1 (r2.mono s1.le) w1 fun σ'' o => hQ _ (.pre s1 g1 x1 o)⟩⟩
def gTu (n : Nat) (r : WGs) : WG := fun d ρ K => match d with
  | .tup ds => ds.length = n ∧ r ds ρ K
  | _ => False
theorem sg_tup {es : List Expr} {k : Nat} {n : Nat} {pos : Pos} {r : WGs} (hk : X.K = T.K) (hc : X.calm = true) (a : SGs T P X es r) (hn : (assignEach es X.env).length = n := by rfl) (hst : (assignEach es X.env).findIdx? (·.1) = none := by rfl) : SG T P X (.Tuple es k pos) (gTu n r) := let ⟨_, a1, a2⟩ := a.ex
  ⟨⟨_, pg_tup hc a1 hn hst, fun v d ρ σ F h H Q K g0 e rr w hQ => by
    cases d with
    | tup ds =>
      obtain ⟨p, xs, rfl, hp, rx⟩ := rr
      exact ⟨p, xs, rfl, .of (g0.f _ _ hp), by rw [rx.length]; exact w.1, a2 xs ds ρ σ F h H _ _ g0 e rx w.2 hQ⟩
    | _ => exact w.elim⟩⟩
/-- targets = e, e frozen -/
def wAsg (w : WE) (g : WG) : WS := fun ρ k => w ρ (fun c ρ1 => toD ρ1 c fun d ρ2 => g d ρ2 k.nx) k.xc
theorem sem_asg {t : TE} {g : TG} {wg : WG} (a : SemE T W t wa) (b : SemG T P g wg) : SemS T W P (tAsg t g) (wAsg wa wg) := fun ρ σ F h H E k g0 e w c => by
  refine a ρ σ F h H _ _ _ g0 e w (fun v H1 o => ?_) c.xe
  obtain ⟨c1, ρ1, F1, k1, k2, g1, d1, s1, e1, r1, w1⟩ := o
  obtain ⟨d, ρ2, F2, he2, g2, s2, e2, r2, w2⟩ := toD_run g1 d1 e1 r1 w1
  exact b v d ρ2 σ F2 he2 H1 _ _ g2 e2 r2 w2 fun σ' o => c.nx _ _ (.pre (s1.trans g1.d s2) g2 .refl o)
theorem ss_asg {tg e : Expr} {pos : Pos} {wg : WG} (a : SE T W X e wa) (b : SG T P X tg wg) (hs : swapsWithSole [tg] e pos.line X.env = pure false := by rfl) (hw : swappedStores [tg] e X.env = pure none := by rfl)
    (h1 : (assignEach [tg] X.env).map (·.2) = [assign tg X.env] := by rfl) : SS T W P X (.Assign [tg] e pos) (wAsg wa wg) := let ⟨_, a1, a2⟩ := a.ex; let ⟨_, b1, b2⟩ := b.ex; ⟨⟨_, ps_asg a1 b1 hs hw h1, sem_asg a2 b2⟩⟩
/-! ### stores into owned lists and dicts -/
theorem EnvO.lst {ds : List D} {v : V} {i : Nat} (e : EnvO T F ρ σ he) (q : ρ[i]? = some (.lst ds)) (hs : σ[i]? = some (some v)) :
    ∃ p xs l2, v = .ref p ∧ l2 p = none ∧ he = jn (sg p (.lst xs)) l2 ∧ Reps T F ds xs ∧ ∀ F' ds' xs', Le F F' → Reps T F' ds' xs' → EnvO T F' (ρ.set i (.lst ds')) σ (jn (sg p (.lst xs')) l2) := by
  obtain ⟨s, l1, l2, x1, x2, x3, x4, f⟩ := e.get q
  rw [hs] at x1
  cases x1
  rcases x4 with ⟨z, _⟩ | ⟨v', ev, p, xs, ep, eh, r⟩
  · cases z
  · cases ev
    subst ep
    subst eh
    refine ⟨p, xs, l2, rfl, x2.at, x3, r, fun F' ds' xs' l r' => ?_⟩
    have z := f F' (.lst ds') (some (.ref p)) (sg p (.lst xs')) l (Dis.single' x2.at) (.inr ⟨_, rfl, p, xs', rfl, rfl, r'⟩)
    rw [set_self hs] at z
    exact z
theorem EnvO.dct {ks : List Key} {ds : List D} {v : V} {i : Nat} (e : EnvO T F ρ σ he) (q : ρ[i]? = some (.dct ks ds)) (hs : σ[i]? = some (some v)) :
    ∃ p xs l2, v = .ref p ∧ l2 p = none ∧ ks.length = ds.length ∧ he = jn (sg p (.dK (ks.zip xs))) l2 ∧ Reps T F ds xs ∧ ∀ F' ks' ds' xs', Le F F' → ks'.length = ds'.length → Reps T F' ds' xs' → EnvO T F' (ρ.set i (.dct ks' ds')) σ (jn (sg p (.dK (ks'.zip xs'))) l2) := by
  obtain ⟨s, l1, l2, x1, x2, x3, x4, f⟩ := e.get q
  rw [hs] at x1
  cases x1
  rcases x4 with ⟨z, _⟩ | ⟨v', ev, p, xs, ep, n, eh, r⟩
  · cases z
  · cases ev
    subst ep
    subst eh
    refine ⟨p, xs, l2, rfl, x2.at, n, x3, r, fun F' ks' ds' xs' l n' r' => ?_⟩
    have z := f F' (.dct ks' ds') (some (.ref p)) (sg p (.dK (ks'.zip xs'))) l (Dis.single' x2.at) (.inr ⟨_, rfl, p, xs', rfl, n', rfl, r'⟩)
    rw [set_self hs] at z
    exact z
/-- slot i [k] = v, a dict -/
def ownD (ρ : Env) (i : Nat) : Bool := match ρ[i]? with
  | some (.dct _ _) => true
  | _ => false
def ownL (ρ : Env) (i : Nat) : Bool := match ρ[i]? with
  | some (.lst _) => true
  | _ => false
theorem EnvO.hasD {i : Nat} (e : EnvO T F ρ σ he) (q : ownD ρ i = true) : ∃ x, σ[i]? = some (some x) := by
  unfold ownD at q
  split at q
  · rename_i ks ds h
    obtain ⟨s, _, _, x1, _, _, x4, _⟩ := e.get h
    rcases x4 with ⟨z, _⟩ | ⟨v, rfl, _⟩
    · cases z
    · exact ⟨v, x1⟩
  · cases q
theorem EnvO.hasL {i : Nat} (e : EnvO T F ρ σ he) (q : ownL ρ i = true) : ∃ x, σ[i]? = some (some x) := by
  unfold ownL at q
  split at q
  · rename_i ds h
    obtain ⟨s, _, _, x1, _, _, x4, _⟩ := e.get h
    rcases x4 with ⟨z, _⟩ | ⟨v, rfl, _⟩
    · cases z
    · exact ⟨v, x1⟩
  · cases q
def wDPut (i : Nat) (wv wk : WE) : WS := fun ρ s => wv ρ (fun c ρ1 => toD ρ1 c fun d ρ2 => ownD ρ2 i = true ∧ wk ρ2 (fun ck ρ3 => match ck with
  | .fz dk => opt (kd dk) fun key => match ρ3[i]? with
    | some (.dct ks ds) => ks.length < sizeLine ∧ s.nx (ρ3.set i (.dct (dputK ks key) (dputD ks ds key d)))
    | _ => False
  | _ => False) s.xc) s.xc
theorem Rep.kd {d : D} {v : V} {k : Key} (r : Rep T F d v) (h : CL.kd d = some k) : v = kV k := by
  cases d <;> first | (cases h; cases r; rfl) | cases h
theorem sem_dput {i : Nat} {tv tk : TE} (a : SemE T W tv wa) (b : SemE T W tk wb) : SemS T W P (sDPut (tVar i) tk tv) (wDPut i wa wb) := fun ρ σ F h H E k g0 e w c => by
  refine a ρ σ F h H _ _ _ g0 e w (fun v H1 o => ?_) c.xe
  obtain ⟨c1, ρ1, F1, k1, k2, g1, d1, s1, e1, r1, w1⟩ := o
  obtain ⟨d, ρ2, F2, he2, g2, s2, e2, r2, ow, w2⟩ := toD_run g1 d1 e1 r1 w1
  have s12 := s1.trans g1.d s2
  obtain ⟨x, hx⟩ := e2.hasD ow
  refine ⟨x, hx, b ρ2 σ F2 he2 H1 _ _ k.xc g2 e2 w2 (fun y H3 o => ?_) (fun cls d H3 o => c.xe _ _ _ (.pre s12 g2 o))⟩
  obtain ⟨ck, ρ3, F3, m1, m2, g3, d3, s3, e3, r3, w3⟩ := o
  revert w3
  split
  · rename_i dk
    intro w3
    obtain ⟨key, ek, w3⟩ := opt_of w3
    rcases r3 with ⟨_, z, _⟩ | ⟨r3, rfl⟩
    · cases z
    rw [jn_emp] at g3 s3
    obtain rfl := r3.kd ek
    revert w3
    split
    · rename_i ks ds q
      intro w3
      obtain ⟨p, xs, l2, rfl, hn, hl, eh, rx, f⟩ := e3.dct q hx
      subst eh
      have hp : H3 p = some (.dK (ks.zip xs)) := g3.o _ _ (jn_some sg_at)
      obtain ⟨g4, s4⟩ := g3.write (o' := .dK ((dputK ks key).zip (dputD ks xs key v))) hn (fun _ z => nomatch z)
      have hl2 : ks.length = xs.length := by rw [rx.length]; exact hl
      refine ⟨p, _, rfl, DPut.k hp (by rw [List.length_zip, ← hl2, Nat.min_self]; exact w3.1), ?_⟩
      rw [zip_put hl2]
      exact c.nx _ _ ⟨_, F3, _, g4, (s12.trans g2.d s3).trans g3.d s4, f F3 _ _ _ Le.refl (dput_length hl) (rx.put hl (r2.mono s3.le)), .refl, w3.2⟩
    · exact fun w => w.elim
  · exact fun w => w.elim
theorem ss_dput (i : Nat) {x : Str} {kx value : Expr} {p1 p2 pos : Pos} (hu : X.A.units + 1 < cLine) (hv : SE T W X value wa) (hk : SE T W X kx wb) (hN : X.N[i]? = some x := by rfl) (hvi : Vis X.env.scope x := by first | exact Or.inl rfl | exact Or.inr (Or.inl rfl) | exact Or.inr (Or.inr rfl))
    (hd : (x == ("__debug__" : Str)) = false := by decide) (hcd : (x == ("__classdict__" : Str)) = false := by decide) (hs : swapsWith value (some (.Subscript (.Name x p1) kx p2)) pos.line X.env = pure false := by rfl) :
    SS T W P X (.Assign [.Subscript (.Name x p1) kx p2] value pos) (wDPut i wa wb) := let ⟨_, a1, a2⟩ := hv.ex; let ⟨_, b1, b2⟩ := hk.ex
  ⟨⟨_, ps_dput hu (pe_var hN hvi hd hcd) b1 a1 hs, sem_dput a2 b2⟩⟩
/-- slot i [k] = v, a list -/
def wLPut (i : Nat) (wv wk : WE) : WS := fun ρ s => wv ρ (fun c ρ1 => toD ρ1 c fun d ρ2 => ownL ρ2 i = true ∧ wk ρ2 (fun ck ρ3 => match ck with
  | .fz (.int z) => match ρ3[i]? with
    | some (.lst ds) => opt (ixN ds.length z) fun j => s.nx (ρ3.set i (.lst (ds.set j d)))
    | _ => False
  | _ => False) s.xc) s.xc
theorem Reps.set : ∀ {ds : List D} {xs : List V} {d : D} {v : V} (i : Nat), Reps T F ds xs → Rep T F d v → Reps T F (ds.set i d) (xs.set i v)
  | [], _, _, _, _, r, _ => by cases r; rfl
  | _ :: _, _, _, _, 0, ⟨x, r, e, a, b⟩, q => by subst e; exact ⟨_, _, rfl, q, b⟩
  | _ :: _, _, _, _, i + 1, ⟨x, r, e, a, b⟩, q => by subst e; exact ⟨_, _, rfl, a, b.set i q⟩
theorem sem_lput {i : Nat} {tv tk : TE} (a : SemE T W tv wa) (b : SemE T W tk wb) : SemS T W P (tAsg tv (gSub (tVar i) tk rSetL)) (wLPut i wa wb) := fun ρ σ F h H E k g0 e w c => by
  refine a ρ σ F h H _ _ _ g0 e w (fun v H1 o => ?_) c.xe
  obtain ⟨c1, ρ1, F1, k1, k2, g1, d1, s1, e1, r1, w1⟩ := o
  obtain ⟨d, ρ2, F2, he2, g2, s2, e2, r2, ow, w2⟩ := toD_run g1 d1 e1 r1 w1
  have s12 := s1.trans g1.d s2
  obtain ⟨x, hx⟩ := e2.hasL ow
  refine ⟨x, hx, b ρ2 σ F2 he2 H1 _ _ k.xc g2 e2 w2 (fun y H3 o => ?_) (fun cls d H3 o => c.xe _ _ _ (.pre s12 g2 o))⟩
  obtain ⟨ck, ρ3, F3, m1, m2, g3, d3, s3, e3, r3, w3⟩ := o
  revert w3
  split
  · rename_i z
    intro w3
    obtain ⟨rfl, rfl⟩ := r3.int
    rw [jn_emp] at g3 s3
    revert w3
    split
    · rename_i ds q
      intro w3
      obtain ⟨j, ej, w3⟩ := opt_of w3
      obtain ⟨p, xs, l2, rfl, hn, eh, rx, f⟩ := e3.lst q hx
      subst eh
      have hp : H3 p = some (.lst xs) := g3.o _ _ (jn_some sg_at)
      obtain ⟨g4, s4⟩ := g3.write (o' := .lst (xs.set j v)) hn (fun _ z => nomatch z)
      refine ⟨p, xs, z, j, rfl, rfl, hp, by rw [rx.length]; exact ej, ?_⟩
      exact c.nx _ _ ⟨_, F3, _, g4, (s12.trans g2.d s3).trans g3.d s4, f F3 _ _ Le.refl (rx.set j (r2.mono s3.le)), .refl, w3⟩
    · exact fun w => w.elim
  · exact fun w => w.elim
theorem ss_lput (i : Nat) {x : Str} {kx value : Expr} {p1 p2 pos : Pos} (hv : SE T W X value wa) (hk : SE T W X kx wb) (hN : X.N[i]? = some x := by rfl) (hvi : Vis X.env.scope x := by first | exact Or.inl rfl | exact Or.inr (Or.inl rfl) | exact Or.inr (Or.inr rfl))
    (hd : (x == ("__debug__" : Str)) = false := by decide) (hcd : (x == ("__classdict__" : Str)) = false := by decide) (hs : swapsWithSole [.Subscript (.Name x p1) kx p2] value pos.line X.env = pure false := by rfl) (hw : swappedStores [.Subscript (.Name x p1) kx p2] value X.env = pure none := by rfl)
    (h1 : (assignEach [.Subscript (.Name x p1) kx p2] X.env).map (·.2) = [assign (.Subscript (.Name x p1) kx p2) X.env] := by rfl)
    (ha : ∀ v, assign (.Subscript (.Name x p1) kx p2) X.env v = (do { let ov ← holding [v] (eval (.Name x p1) X.env); let iv ← holding [v, ov] (eval kx X.env); standAt p2; holding [v, ov, iv] (setItem ov iv v); release [v, ov, iv] [] }) := by intro _; rfl) :
    SS T W P X (.Assign [.Subscript (.Name x p1) kx p2] value pos) (wLPut i wa wb) := let ⟨_, a1, a2⟩ := hv.ex; let ⟨_, b1, b2⟩ := hk.ex
  ⟨⟨_, ps_asg a1 (pg_sub (pe_var hN hvi hd hcd) b1 set_list ha) hs hw h1, sem_lput a2 b2⟩⟩
/-! ### methods of owned lists, as expressions -/
/-- the receiver is slot i -/
def wMeth (i : Nat) (wr : WA) (f : List D → List Cell → Env → (Cell → Env → Prop) → Prop) : WE := fun ρ K Z => ownL ρ i = true ∧ wr ρ (fun cs ρ1 => match ρ1[i]? with
  | some (.lst ds) => f ds cs ρ1 K
  | _ => False) Z
def mApp (i : Nat) : List D → List Cell → Env → (Cell → Env → Prop) → Prop := fun ds cs ρ K => ds.length < sizeLine ∧ match cs with
  | [c] => toD ρ c fun d ρ' => match ρ'[i]? with
    | some (.lst ds') => ds'.length < sizeLine ∧ K (.fz .non) (ρ'.set i (.lst (ds' ++ [d])))
    | _ => False
  | _ => False
def mPop (i : Nat) : List D → List Cell → Env → (Cell → Env → Prop) → Prop := fun ds cs ρ K => match cs with
  | [] => opt ds[ds.length - 1]? fun d => K (.fz d) (ρ.set i (.lst ds.dropLast))
  | _ => False
def mPopAt (i : Nat) : List D → List Cell → Env → (Cell → Env → Prop) → Prop := fun ds cs ρ K => match cs with
  | [.fz (.int z)] => ds.length ≤ sizeLine ∧ opt (ixN ds.length z) fun j => opt ds[j]? fun d => K (.fz d) (ρ.set i (.lst (ds.eraseIdx j)))
  | _ => False
def mClear (i : Nat) : List D → List Cell → Env → (Cell → Env → Prop) → Prop := fun ds cs ρ K => match cs with
  | [] => K (.fz .non) (ρ.set i (.lst []))
  | _ => False
/-- what a method's rule asks, at the list of slot i -/
def MethS (T : Tabs) (i : Nat) (r : V → List V → Hp → VK → Prop) (f : List D → List Cell → Env → (Cell → Env → Prop) → Prop) : Prop := ∀ ρ σ F he ha H x ds cs vs Q K, Good T F (jn he ha) H → Dis he ha → EnvO T F ρ σ he → σ[i]? = some (some x) → ρ[i]? = some (.lst ds) →
  ROs T F σ cs vs ha → f ds cs ρ K → (∀ v H', OutE T σ F (jn he ha) H K v H' → Q v H') → r x vs H Q
theorem tyL {K : PySem.W.Frag} {x : V} {ds : List D} {i : Nat} (g : Good T F he H) (e : EnvO T F ρ σ he) (q : ρ[i]? = some (.lst ds)) (hs : σ[i]? = some (some x)) : tyV K "list" x H := by
  obtain ⟨p, xs, l2, rfl, hn, eh, rx, f⟩ := e.lst q hs
  subst eh
  exact .inl ⟨rfl, xs, .of (g.o _ _ (jn_some sg_at))⟩
theorem sem_meth {K : PySem.W.Frag} {i : Nat} {tr : TA} {wr : WA} {r : V → List V → Hp → VK → Prop} {f : List D → List Cell → Env → (Cell → Env → Prop) → Prop} (a : SemA T W tr wr) (m : MethS T i r f) : SemE T W (tBM K "list" r (tVar i) tr) (wMeth i wr f) := fun ρ σ F h H Q K' Z g e w hQ hZ => by
  obtain ⟨ow, w⟩ := w
  obtain ⟨x, hx⟩ := e.hasL ow
  have ty : tyV K "list" x H := by
    unfold ownL at ow
    split at ow
    · rename_i ds q
      exact tyL g e q hx
    · cases ow
  refine ⟨x, hx, ty, a ρ σ F h H _ _ Z g e w (fun vs H1 o => ?_) hZ⟩
  obtain ⟨cs, ρ1, F1, k1, k2, g1, d1, s1, e1, r1, w1⟩ := o
  revert w1
  split
  · rename_i ds q
    intro w1
    exact m ρ1 σ F1 k1 k2 H1 x ds cs vs Q K' g1 d1 e1 hx q r1 w1 fun v H' o => hQ v H' (.pre s1 g1 o)
  · exact fun w => w.elim
theorem ms_app {i : Nat} : MethS T i rAppend (mApp i) := fun ρ σ F he ha H x ds cs vs Q K g dd e hx q ro w hQ => by
  obtain ⟨hl, w⟩ := w
  revert w
  split
  · rename_i c
    intro w
    obtain ⟨y, rfl, rc⟩ := ro.uno
    obtain ⟨d, ρ2, F2, he2, g2, s2, e2, r2, w2⟩ := toD_run g dd e rc w
    revert w2
    split
    · rename_i ds' q'
      intro w2
      obtain ⟨p, xs, l2, rfl, hn, eh, rx, f⟩ := e2.lst q' hx
      subst eh
      obtain ⟨g4, s4⟩ := g2.write (o' := .lst (xs ++ [y])) hn (fun _ z => nomatch z)
      refine ⟨p, xs, y, rfl, rfl, g2.o _ _ (jn_some sg_at), by rw [rx.length]; exact w2.1, hQ _ _ (.pre (s2.trans g2.d s4) g4 ?_)⟩
      exact .fz (d := .non) g4 (f F2 _ _ Le.refl (rx.snoc r2)) rfl w2.2
    · exact fun w => w.elim
  · exact fun w => w.elim
theorem ms_pop {i : Nat} : MethS T i rPop (mPop i) := fun ρ σ F he ha H x ds cs vs Q K g dd e hx q ro w hQ => by
  unfold mPop at w
  revert w
  split
  · intro w
    obtain ⟨d, ed, w⟩ := opt_of w
    obtain ⟨rfl, rfl⟩ := ro
    rw [jn_emp] at g hQ
    obtain ⟨p, xs, l2, rfl, hn, eh, rx, f⟩ := e.lst q hx
    subst eh
    obtain ⟨g4, s4⟩ := g.write (o' := .lst xs.dropLast) hn (fun _ z => nomatch z)
    obtain ⟨y, ey, ry⟩ := rx.get ed
    refine ⟨p, xs, y, rfl, rfl, g.o _ _ (jn_some sg_at), by rw [rx.length]; exact ey, hQ _ _ (.pre s4 g4 ?_)⟩
    exact .fz g4 (f F _ _ Le.refl rx.dropLast) ry w
  · exact fun w => w.elim
theorem ms_popAt {i : Nat} : MethS T i rPopAt (mPopAt i) := fun ρ σ F he ha H x ds cs vs Q K g dd e hx q ro w hQ => by
  unfold mPopAt at w
  revert w
  split
  · rename_i z
    intro w
    obtain ⟨hz, w⟩ := w
    obtain ⟨j, ej, w⟩ := opt_of w
    obtain ⟨d, ed, w⟩ := opt_of w
    obtain ⟨y0, rfl, rc⟩ := ro.uno
    obtain ⟨rfl, rfl⟩ := rc.int
    rw [jn_emp] at g hQ
    obtain ⟨p, xs, l2, rfl, hn, eh, rx, f⟩ := e.lst q hx
    subst eh
    obtain ⟨g4, s4⟩ := g.write (o' := .lst (xs.eraseIdx j)) hn (fun _ z => nomatch z)
    obtain ⟨y, ey, ry⟩ := rx.get ed
    have z := ixN_seq ej
    have lz := line63
    refine ⟨p, xs, _, j, y, rfl, rfl, g.o _ _ (jn_some sg_at), by omega, by omega, by rw [rx.length]; exact z.1, ey, hQ _ _ (.pre s4 g4 ?_)⟩
    exact .fz g4 (f F _ _ Le.refl (rx.erase j)) ry w
  · exact fun w => w.elim
theorem ms_clear {i : Nat} : MethS T i rClear (mClear i) := fun ρ σ F he ha H x ds cs vs Q K g dd e hx q ro w hQ => by
  unfold mClear at w
  revert w
  split
  · intro w
    obtain ⟨rfl, rfl⟩ := ro
    rw [jn_emp] at g hQ
    obtain ⟨p, xs, l2, rfl, hn, eh, rx, f⟩ := e.lst q hx
    subst eh
    obtain ⟨g4, s4⟩ := g.write (o' := .lst []) hn (fun _ z => nomatch z)
    refine ⟨p, xs, rfl, rfl, g.o _ _ (jn_some sg_at), hQ _ _ (.pre s4 g4 ?_)⟩
    exact .fz (d := .non) g4 (f F [] [] Le.refl rfl) rfl w
  · exact fun w => w.elim
end
end CL

/-! # CL: list methods as expressions, iteration, loops, comprehensions -/
namespace CL
open PySem L2
section
variable {T : Tabs} {W : WX} {X : Cx} {P : List Nat} {ρ ρ' : Env} {σ σ' : L2.St} {F F' h h' h1 h2 ha he H H' H'' : Hp} {E : Ends} {k : Ks} {wa wb wc : WE}
theorem se_meth {i : Nat} {x name : Str} {e : Expr} {es : List Expr} {p1 apos cpos : Pos} {id : String} {wr : WA} {r : V → List V → Hp → VK → Prop} {f : List D → List Cell → Env → (Cell → Env → Prop) → Prop} (slot : Slot "list" name id) (hty : typeOf (.builtin id) = pure (.type "method_descriptor")) (hm : MtR X id r) (m : MethS T i r f) (a : SA T W X (e :: es) wr)
    (hN : X.N[i]? = some x := by rfl) (hvi : Vis X.env.scope x := by first | exact Or.inl rfl | exact Or.inr (Or.inl rfl) | exact Or.inr (Or.inr rfl)) (hd : (x == ("__debug__" : Str)) = false := by decide) (hcd : (x == ("__classdict__" : Str)) = false := by decide)
    (hbase : attributeBase (.Name x p1) name X.env (eval (.Name x p1) X.env) = eval (.Name x p1) X.env := by rfl)
    (hfew : ((backTo cpos (starEach (e :: es) X.env)).all (fun x => !x.1) && (backToKw cpos (keywordEach [] X.env)).all (fun x => x.1.isSome)
      && decide ((e :: es).length + ([] : List Keyword).length + (if ([] : List Keyword).isEmpty then 0 else 1) < 30)) = true := by rfl)
    (hline : (apos.endLine == cpos.line) = true := by rfl) (hs : starEach (e :: es) X.env = (false, eval e X.env) :: starEach es X.env := by rfl) (hplain : (backTo cpos (starEach es X.env)).any (·.1) = false := by rfl) :
    SE T W X (.Call (.Attribute (.Name x p1) name apos) (e :: es) [] cpos) (wMeth i wr f) := let ⟨_, a1, a2⟩ := a.ex
  ⟨⟨_, pe_bm PySem.F.plainAttrs_list slot hty hm (pe_var hN hvi hd hcd) a1 hbase hfew hline hs hplain, sem_meth a2 m⟩⟩
theorem se_meth0 {i : Nat} {x name : Str} {p1 apos cpos : Pos} {id : String} {r : V → List V → Hp → VK → Prop} {f : List D → List Cell → Env → (Cell → Env → Prop) → Prop} (slot : Slot "list" name id) (hty : typeOf (.builtin id) = pure (.type "method_descriptor")) (hm : MtR X id r) (m : MethS T i r f)
    (hN : X.N[i]? = some x := by rfl) (hvi : Vis X.env.scope x := by first | exact Or.inl rfl | exact Or.inr (Or.inl rfl) | exact Or.inr (Or.inr rfl)) (hd : (x == ("__debug__" : Str)) = false := by decide) (hcd : (x == ("__classdict__" : Str)) = false := by decide)
    (hbase : attributeBase (.Name x p1) name X.env (eval (.Name x p1) X.env) = eval (.Name x p1) X.env := by rfl) (hline : (apos.endLine == cpos.line) = true := by rfl) :
    SE T W X (.Call (.Attribute (.Name x p1) name apos) [] [] cpos) (wMeth i wNil f) :=
  ⟨⟨_, pe_bm0 PySem.F.plainAttrs_list slot hty hm (pe_var hN hvi hd hcd) hbase hline, sem_meth (K := X.K) (tr := tNil) sem_nil m⟩⟩
/-! ### iteration -/
abbrev WI := Env → (List D → Env → Prop) → KX → Prop
/-- J walks what stands for ds, as long as F stands -/
structure Goes (T : Tabs) (F : Hp) (J : It) (ds : List D) : Prop where
  go : ∀ H i, Le F H → i < ds.length → J.go i H
  stop : ∀ H, Le F H → J.stop ds.length H
  yld : ∀ H i x H', Le F H → i < ds.length → J.yld i H x H' → H' = H ∧ ∃ d, ds[i]? = some d ∧ Rep T F d x
theorem Goes.mono {J : It} {ds : List D} (g : Goes T F J ds) (l : Le F F') : Goes T F' J ds := ⟨fun H i h => g.go H i (l.trans h), fun H h => g.stop H (l.trans h), fun H i x H' h hi y => let ⟨a, d, b, c⟩ := g.yld H i x H' (l.trans h) hi y; ⟨a, d, b, c.mono l⟩⟩
def SemI (T : Tabs) (W : WX) (t : TI) (w : WI) : Prop := ∀ ρ σ F h H (R : It → Hp → Prop) K Z, Good T F h H → EnvO T F ρ σ h → w ρ K Z →
  (∀ J H' ds ρ' F' h1, Good T F' h1 H' → Step F h H F' h1 H' → EnvO T F' ρ' σ h1 → Goes T F' J ds → K ds ρ' → R J H') → (∀ cls d H', OutX T σ F h H Z cls d H' → W cls d σ H') → t σ H R
structure SI (T : Tabs) (W : WX) (X : Cx) (tg e : Expr) (w : WI) : Prop where
  ex : ∃ t, PI X tg e t ∧ SemI T W t w
/-- a list | a tuple, frozen for the walk -/
def wItL (w : WE) : WI := fun ρ K Z => w ρ (fun c ρ1 => toD ρ1 c fun d ρ2 => match d with
  | .lst ds => K ds ρ2
  | .tup ds => K ds ρ2
  | .scr ns => K (ns.map D.int) ρ2
  | _ => False) Z
def wItU (w : WE) : WI := fun ρ K Z => w ρ (fun c ρ1 => toD ρ1 c fun d ρ2 => match d with
  | .tup ds => K ds ρ2
  | _ => False) Z
def iSeq (K : PySem.W.Frag) (tl : TE) : TI := fun σ H R => tl σ H fun x H1 => ∃ a, x = .ref a ∧ (((∃ xs, SqL K H1 a xs) ∧ R (Itl K a) H1) ∨ ((∃ xs, SqT K H1 a xs) ∧ R (Itt K a) H1))
theorem pi_seq {tg l : Expr} {tl : TE} (hl : PE X l tl) : PI X tg l (iSeq X.K tl) := by
  refine ⟨fun pins s σ H R I h => ?_⟩
  refine thn (hl.run pins s σ H _ I h) fun v s1 ⟨x, H1, I1, r1, q1⟩ => ?_
  obtain ⟨a, e, q1⟩ := q1
  subst e
  cases r1
  rcases q1 with ⟨⟨xs, hq⟩, q⟩ | ⟨⟨xs, hq⟩, q⟩
  · obtain ⟨its, rv, p, hz⟩ := I1.list hq
    refine wpAny_pyIter_list p.isList ?_
    refine ⟨s1.heap.objs.size, [s1.heap.objs.size], _, _, H1, rfl, I1.kept (t' := s1.toks) fun b o e => Heap.get?_push_of_some _ e, turn_list a _, ⟨_, Heap.get?_push_size _ rfl, rfl, rfl⟩, fun b hb => ?_, q⟩
    have e : b = s1.heap.objs.size := by simpa using hb
    subst e
    exact I1.fpOk (Nat.le_refl _) (I1.hok.fresh (Nat.le_refl _))
  · obtain ⟨its, rv, p, hz⟩ := I1.tuple hq
    refine wpAny_pyIter_tuple (show s1.heap.IsTuple a its.toArray from p) ?_
    refine ⟨s1.heap.objs.size, [s1.heap.objs.size], _, _, H1, rfl, I1.kept (t' := s1.toks) fun b o e => Heap.get?_push_of_some _ e, turn_tuple a _, ⟨_, Heap.get?_push_size _ rfl, rfl, rfl⟩, fun b hb => ?_, q⟩
    have e : b = s1.heap.objs.size := by simpa using hb
    subst e
    exact I1.fpOk (Nat.le_refl _) (I1.hok.fresh (Nat.le_refl _))
theorem si_list {tg e : Expr} (hk : X.K = T.K) (a : SE T W X e wa) : SI T W X tg e (wItL wa) := let ⟨_, a1, a2⟩ := a.ex
  ⟨⟨_, pi_seq a1, fun ρ σ F h H R K Z g e w hR hZ => by
    refine a2 ρ σ F h H _ _ Z g e w (fun v H1 o => ?_) hZ
    obtain ⟨c1, ρ1, F1, k1, k2, g1, d1, s1, e1, r1, w1⟩ := o
    obtain ⟨d, ρ2, F2, he2, g2, s2, e2, r2, w2⟩ := toD_run g1 d1 e1 r1 w1
    have fin : ∀ p ds xs, v = .ref p → SqL T.K F2 p xs → Reps T F2 ds xs → K ds ρ2 → ∃ a, v = .ref a ∧ (((∃ xs, SqL X.K H1 a xs) ∧ R (Itl X.K a) H1) ∨ ((∃ xs, SqT X.K H1 a xs) ∧ R (Itt X.K a) H1)) := fun p ds xs ev hp rx w2 => by
      rw [hk]
      refine ⟨p, ev, .inl ⟨⟨xs, SqL.le g2.f hp⟩, hR _ _ ds ρ2 F2 he2 g2 (s1.trans g1.d s2) e2 ⟨fun H i l hi => ?_, fun H l => ?_, fun H i x H' l _ y => ?_⟩ w2⟩⟩
      · exact ⟨xs, xs[i]'(by rw [rx.length]; exact hi), SqL.le l hp, by simp⟩
      · exact ⟨xs, SqL.le l hp, by rw [rx.length]; exact Nat.le_refl _⟩
      · exact ⟨y.1, rx.get' (y.2 xs (SqL.le l hp))⟩
    cases d with
    | lst ds =>
      obtain ⟨p, xs, ev, hp, rx⟩ := r2
      exact fin p ds xs ev (.of hp) rx w2
    | tup ds =>
      obtain ⟨p, xs, ev, hp, rx⟩ := r2
      have hq : SqT X.K F2 p xs := .of hp
      refine ⟨p, ev, .inr ⟨⟨xs, SqT.le g2.f hq⟩, hR _ _ ds ρ2 F2 he2 g2 (s1.trans g1.d s2) e2 ⟨fun H i l hi => ?_, fun H l => ?_, fun H i x H' l _ y => ?_⟩ w2⟩⟩
      · exact ⟨xs, xs[i]'(by rw [rx.length]; exact hi), SqT.le l hq, by simp⟩
      · exact ⟨xs, SqT.le l hq, by rw [rx.length]; exact Nat.le_refl _⟩
      · exact ⟨y.1, rx.get' (y.2 xs (SqT.le l hq))⟩
    | scr ns =>
      obtain ⟨p, ev, hp⟩ := r2
      exact fin p _ _ ev hp (Reps.ints ns) w2
    | _ => exact w2.elim⟩⟩
theorem si_tup {tg e : Expr} (hk : X.K = T.K) (a : SE T W X e wa) : SI T W X tg e (wItU wa) := let ⟨_, a1, a2⟩ := a.ex
  ⟨⟨_, pi_tup a1, fun ρ σ F h H R K Z g e w hR hZ => by
    refine a2 ρ σ F h H _ _ Z g e w (fun v H1 o => ?_) hZ
    obtain ⟨c1, ρ1, F1, k1, k2, g1, d1, s1, e1, r1, w1⟩ := o
    obtain ⟨d, ρ2, F2, he2, g2, s2, e2, r2, w2⟩ := toD_run g1 d1 e1 r1 w1
    cases d with
    | tup ds =>
      obtain ⟨p, xs, ev, hp, rx⟩ := r2
      have hq : SqT X.K F2 p xs := .of hp
      refine ⟨p, ev, ⟨xs, SqT.le g2.f hq⟩, hR _ _ ds ρ2 F2 he2 g2 (s1.trans g1.d s2) e2 ⟨fun H i l hi => ?_, fun H l => ?_, fun H i x H' l _ y => ?_⟩ w2⟩
      · exact ⟨xs, xs[i]'(by rw [rx.length]; exact hi), SqT.le l hq, by simp⟩
      · exact ⟨xs, SqT.le l hq, by rw [rx.length]; exact Nat.le_refl _⟩
      · exact ⟨y.1, rx.get' (y.2 xs (SqT.le l hq))⟩
    | _ => exact w2.elim⟩⟩
def rangeD (lo : Int) (n : Nat) : List D := (List.range n).map fun i : Nat => .int (lo + (i : Int))
theorem goes_range {lo : Int} {n : Nat} : Goes T F (Itr lo n) (rangeD lo n) := by
  refine ⟨fun H i _ hi => ?_, fun H _ => ?_, fun H i x H' _ hi y => ?_⟩
  · show i < n
    simpa [rangeD] using hi
  · show n ≤ _
    simp [rangeD]
  · obtain ⟨e, ex⟩ := y
    refine ⟨e, .int (lo + i), ?_, ex⟩
    have hi' : i < n := by simpa [rangeD] using hi
    simp [rangeD, hi']
def small62 (i : Int) : Bool := decide (-(2 ^ 62) ≤ i) && decide (i < 2 ^ 62)
def wRg1 (wa : WA) : WI := fun ρ K Z => wa ρ (fun cs ρ1 => match cs with
  | [.fz (.int j)] => small62 j = true ∧ K (rangeD 0 j.toNat) ρ1
  | _ => False) Z
def wRg2 (wa : WA) : WI := fun ρ K Z => wa ρ (fun cs ρ1 => match cs with
  | [.fz (.int i), .fz (.int j)] => (small62 i && small62 j) = true ∧ K (rangeD i (j - i).toNat) ρ1
  | _ => False) Z
theorem si_range1 {tg a : Expr} {p pos : Pos} {wr : WA} (hm : X.mg "range" = none) (ha : SA T W X [a] wr) (hg : Gl X "range" := by rfl) (hs : starEach [a] X.env = [(false, eval a X.env)] := by rfl) : SI T W X tg (.Call (.Name "range" p) [a] [] pos) (wRg1 wr) := let ⟨_, a1, a2⟩ := ha.ex
  ⟨⟨_, pi_range1 hg hm a1 hs, fun ρ σ F h H R K Z g e w hR hZ => by
    refine a2 ρ σ F h H _ _ Z g e w (fun vs H1 o => ?_) hZ
    obtain ⟨cs, ρ1, F1, k1, k2, g1, d1, s1, e1, r1, w1⟩ := o
    revert w1
    split
    · rename_i j
      intro w1
      obtain ⟨x, rfl, rx⟩ := r1.uno
      obtain ⟨rfl, rfl⟩ := rx.int
      rw [jn_emp] at g1 s1
      have z := w1.1
      simp only [small62, Bool.and_eq_true, decide_eq_true_eq] at z
      exact ⟨j, rfl, z.1, z.2, hR _ _ _ ρ1 F1 k1 g1 s1 e1 goes_range w1.2⟩
    · exact fun w => w.elim⟩⟩
theorem si_range2 {tg a b : Expr} {p pos : Pos} {wr : WA} (hm : X.mg "range" = none) (ha : SA T W X [a, b] wr) (hg : Gl X "range" := by rfl) (hs : starEach [a, b] X.env = [(false, eval a X.env), (false, eval b X.env)] := by rfl) (hs2 : starEach [b] X.env = [(false, eval b X.env)] := by rfl) : SI T W X tg (.Call (.Name "range" p) [a, b] [] pos) (wRg2 wr) := let ⟨_, a1, a2⟩ := ha.ex
  ⟨⟨_, pi_range2 hg hm a1 hs hs2, fun ρ σ F h H R K Z g e w hR hZ => by
    refine a2 ρ σ F h H _ _ Z g e w (fun vs H1 o => ?_) hZ
    obtain ⟨cs, ρ1, F1, k1, k2, g1, d1, s1, e1, r1, w1⟩ := o
    revert w1
    split
    · rename_i i j
      intro w1
      obtain ⟨x, y, l1, l2, rfl, d2, rfl, rx, ry⟩ := r1.two
      obtain ⟨rfl, rfl⟩ := rx.int
      obtain ⟨rfl, rfl⟩ := ry.int
      rw [jn_emp, jn_emp] at g1 s1
      have z := w1.1
      simp only [small62, Bool.and_eq_true, decide_eq_true_eq] at z
      exact ⟨i, j, rfl, ⟨z.1.1, z.1.2, z.2.1, z.2.2⟩, hR _ _ _ ρ1 F1 k1 g1 s1 e1 goes_range w1.2⟩
    · exact fun w => w.elim⟩⟩
/-! ### for -/
def wFor (it : WI) (g : WG) (body : WS) : WS := fun ρ k => it ρ (fun ds ρ1 => ∃ I : Nat → Env → Prop, I 0 ρ1 ∧
  (∀ n d ρ2, ds[n]? = some d → I n ρ2 → g d ρ2 fun ρ3 => body ρ3 { k with nx := I (n + 1), ct := I (n + 1), bk := k.nx }) ∧ ∀ ρ2, I ds.length ρ2 → k.nx ρ2) k.xc
theorem sem_for {ti : TI} {g : TG} {tb : TS} {wi : WI} {wg : WG} {wb : WS} (a : SemI T W ti wi) (b : SemG T P g wg) (c : SemS T W P tb wb) : SemS T W P (tFor ti g tb) (wFor wi wg wb) := fun ρ σ F h H E k g0 e w cn => by
  refine a ρ σ F h H _ _ _ g0 e w (fun J H1 ds ρ1 F1 h1 g1 s1 e1 gs w1 => ?_) cn.xe
  obtain ⟨I, i0, turn, done⟩ := w1
  refine ⟨fun i m σ' H' => m = ds.length - i ∧ i ≤ ds.length ∧ AtS T P σ F1 h1 H1 (I i) σ' H', ⟨_, rfl, Nat.zero_le _, ρ1, F1, h1, g1, .refl, e1, .refl, i0⟩, ?_⟩
  rintro i m σ2 H2 ⟨rfl, hi, ρ2, F2, h2, g2, s2, e2, x2, w2⟩
  have cn2 := (cn.from s1 g1 .refl).from s2 g2 x2
  by_cases hlt : i < ds.length
  · refine .inr ⟨gs.go H2 i (s2.le.trans g2.f) hlt, AtS T P σ F1 h1 H1 (I (i + 1)), fun σ' H' q => ⟨ds.length - (i + 1), by omega, rfl, hlt, q⟩, fun x H' y => ?_⟩
    obtain ⟨rfl, d, ed, rd⟩ := gs.yld H2 i x H' (s2.le.trans g2.f) hlt y
    refine b x d ρ2 σ2 F2 h2 H' _ _ g2 e2 (rd.mono s2.le) (turn i d ρ2 ed w2) fun σ3 o => ?_
    obtain ⟨ρ3, F3, h3, g3, s3, e3, x3, w3⟩ := o
    have s23 := s2.trans g2.d s3
    refine c ρ3 σ3 F3 h3 H' _ _ g3 e3 w3 ⟨fun σ' H'' q => .pre s23 g3 (x2.trans x3) q, fun σ' H'' q => cn2.nx _ _ (.pre s3 g3 x3 q), fun σ' H'' q => .pre s23 g3 (x2.trans x3) q, (cn2.from s3 g3 x3).rt, (cn2.from s3 g3 x3).xc⟩
  · have ei : i = ds.length := by omega
    subst ei
    exact .inl ⟨gs.stop H2 (s2.le.trans g2.f), cn2.nx _ _ ⟨ρ2, F2, h2, g2, .refl, e2, .refl, done ρ2 w2⟩⟩
theorem ss_for {tg iter : Expr} {body : List Stmt} {pos : Pos} {wi : WI} {wg : WG} {wb : WS} (hp : PassesOwn (model X.prog X.w) X.A X.env X.xe) (hc : X.calm = true) (a : SI T W X tg iter wi) (b : SG T P X tg wg) (c : SB T W P X body wb) (hs : ∀ x, foldedSetIterable iter X.env x = pure x := by intro _; rfl) :
    SS T W P X (.For tg iter body [] pos) (wFor wi wg wb) := let ⟨_, a1, a2⟩ := a.ex; let ⟨_, b1, b2⟩ := b.ex; let ⟨_, c1, c2⟩ := c.ex; ⟨⟨_, ps_for hp hc a1 b1 c1 hs, sem_for a2 b2 c2⟩⟩
/-! ### while -/
def wWhile (t : WT) (body : WS) : WS := fun ρ k => ∃ I : Nat → Env → Prop, (∃ m, I m ρ) ∧ ∀ m ρ, I m ρ → t ρ (fun b ρ1 => if b = true then body ρ1 { k with nx := fun ρ2 => ∃ m', m' < m ∧ I m' ρ2, ct := fun ρ2 => ∃ m', m' < m ∧ I m' ρ2, bk := k.nx } else k.nx ρ1) k.xc
theorem sem_while {tt : TT} {tb : TS} {wt : WT} {wb : WS} (a : SemT T W tt wt) (c : SemS T W P tb wb) : SemS T W P (tWhile tt tb) (wWhile wt wb) := fun ρ σ F h H E k g0 e w cn => by
  obtain ⟨I, ⟨m0, i0⟩, turn⟩ := w
  refine ⟨fun m σ' H' => AtS T P σ F h H (I m) σ' H', ⟨m0, ρ, F, h, g0, .refl, e, .refl, i0⟩, ?_⟩
  rintro m σ2 H2 ⟨ρ2, F2, h2, g2, s2, e2, x2, w2⟩
  have cn2 := cn.from s2 g2 x2
  refine a ρ2 σ2 F2 h2 H2 _ _ _ g2 e2 (turn m ρ2 w2) (fun b H3 o => ?_) cn2.xe
  obtain ⟨ρ3, F3, h3, g3, s3, e3, w3⟩ := o
  cases b with
  | true =>
    have s23 := s2.trans g2.d s3
    have cn3 := cn2.from s3 g3 .refl
    have key : ∀ σ' H'', AtS T P σ2 F3 h3 H3 (fun ρ2 => ∃ m', m' < m ∧ I m' ρ2) σ' H'' → ∃ m', m' < m ∧ AtS T P σ F h H (I m') σ' H'' := fun σ' H'' q => by
      obtain ⟨ρ', F', h', a1, a2, a3, a4, m', lt, a5⟩ := AtS.pre s23 g3 x2 q
      exact ⟨m', lt, ρ', F', h', a1, a2, a3, a4, a5⟩
    exact ⟨fun σ' H' => ∃ m', m' < m ∧ AtS T P σ F h H (I m') σ' H', fun _ _ q => q, c ρ3 σ2 F3 h3 H3 _ _ g3 e3 w3 ⟨key, cn3.nx, key, cn3.rt, cn3.xc⟩⟩
  | false => exact cn2.nx _ _ ⟨ρ3, F3, h3, g3, s3, e3, .refl, w3⟩
theorem ss_while {t : Expr} {body : List Stmt} {pos : Pos} {wt : WT} {wb : WS} (hp : PassesOwn (model X.prog X.w) X.A X.env X.xe) (a : ST T W X t wt) (c : SB T W P X body wb) : SS T W P X (.While t body [] pos) (wWhile wt wb) := let ⟨_, a1, a2⟩ := a.ex; let ⟨_, c1, c2⟩ := c.ex; ⟨⟨_, ps_while hp a1 c1, sem_while a2 c2⟩⟩
/-! ### comprehensions -/
/-- the reading that asks no more than w -/
def cE (T : Tabs) (W : WX) (w : WE) : TE := fun σ H Q => ∃ ρ F h K Z, Good T F h H ∧ EnvO T F ρ σ h ∧ w ρ K Z ∧ (∀ v H', OutE T σ F h H K v H' → Q v H') ∧ (∀ cls d H', OutX T σ F h H Z cls d H' → W cls d σ H')
def cT (T : Tabs) (W : WX) (w : WT) : TT := fun σ H Q => ∃ ρ F h K Z, Good T F h H ∧ EnvO T F ρ σ h ∧ w ρ K Z ∧ (∀ v H', OutT T σ F h H K v H' → Q v H') ∧ (∀ cls d H', OutX T σ F h H Z cls d H' → W cls d σ H')
theorem SE.can {e : Expr} {w : WE} (a : SE T W X e w) : PE X e (cE T W w) := let ⟨_, a1, a2⟩ := a.ex
  ⟨fun pins s σ H Q I ⟨ρ, F, h, K, Z, g, en, ww, hq, hz⟩ => a1.run pins s σ H Q I (a2 ρ σ F h H Q K Z g en ww hq hz)⟩
theorem ST.can {e : Expr} {w : WT} (a : ST T W X e w) : PT X e (cT T W w) := let ⟨_, a1, a2⟩ := a.ex
  ⟨fun pins s σ H Q I ⟨ρ, F, h, K, Z, g, en, ww, hq, hz⟩ => a1.run pins s σ H Q I (a2 ρ σ F h H Q K Z g en ww hq hz)⟩
abbrev W0 : WX := fun _ _ _ _ => False
theorem EnvO.reslot {i : Nat} {s' : Option V} (e : EnvO T F ρ σ h) (q : ρ[i]? = some .un) : EnvO T F ρ (σ.set i s') h := by
  obtain ⟨s, l1, l2, x1, x2, x3, x4, f⟩ := e.get q
  have z : l1 = emp := by
    rcases x4 with ⟨_, z⟩ | ⟨_, _, z⟩
    · exact z
    · exact z
  subst z
  have y := f F .un s' emp Le.refl Dis.empl (.inl ⟨rfl, rfl⟩)
  rw [set_self q] at y
  rw [x3]
  exact y
/-- [elt for name in iter if test], the name in slot i -/
def wLc (i : Nat) (it : WI) (t : WT) (w : WE) : WE := fun ρ K Z => it ρ (fun ds ρ1 => i < ρ1.length ∧ ∃ I : Nat → List D → Env → Prop, I 0 [] (ρ1.set i .un) ∧
  (∀ n d acc ρ2, ds[n]? = some d → I n acc ρ2 → i < ρ2.length ∧ t (ρ2.set i (.fz d)) (fun b ρ3 => if b = true then w ρ3 (fun c ρ4 => toD ρ4 c fun d' ρ5 => acc.length < sizeLine ∧ I (n + 1) (acc ++ [d']) (ρ5.set i .un)) (fun _ _ => False) else I (n + 1) acc (ρ3.set i .un)) (fun _ _ => False)) ∧
  ∀ acc ρ2, I ds.length acc ρ2 → ρ2[i]? = some .un ∧ K (.lst acc) ρ2) Z
def wYes : WT := fun ρ K _ => K true ρ
theorem sem_lc {i : Nat} {ti : TI} {wi : WI} {wt : WT} {w : WE} (a : SemI T W ti wi) : SemE T W (tLc ti (gName i) (cT T W0 wt) (cE T W0 w) [i]) (wLc i wi wt w) := fun ρ σ F h H Q K Z g0 e ww hQ hZ => by
  refine a ρ σ F h H _ _ Z g0 e ww (fun J H1 ds ρ1 F1 h1 g1 s1 e1 gs w1 => ?_) hZ
  intro D hD
  obtain ⟨hi1, I, i0, turn, done⟩ := w1
  have wip : wipe σ [i] = σ.set i none := rfl
  -- the start
  obtain ⟨a1, a2, a3, a4, af⟩ := e1.forget (i := i)
  subst a3
  obtain ⟨gd, sd⟩ := g1.drop
  obtain ⟨g2, s2, d2⟩ := gd.alloc (o := .lst []) hD (fun _ z => nomatch z)
  refine ⟨fun n m H' => m = ds.length - n ∧ n ≤ ds.length ∧ ∃ ρ2 F2 h2 acc av, Good T F2 (jn h2 (sg D (.lst av))) H' ∧ h2 D = none ∧ Step F1 (jn a1 a2) H1 F2 (jn h2 (sg D (.lst av))) H' ∧ EnvO T F2 ρ2 (σ.set i none) h2 ∧ Reps T F2 acc av ∧ I n acc ρ2,
    ⟨_, rfl, Nat.zero_le _, _, F1, a1, [], [], g2, d2.at', (sd.trans gd.d s2), af none, rfl, i0⟩, ?_⟩
  rintro n m H2 ⟨rfl, hn, ρ2, F2, h2, acc, av, g3, dn, s3, e3, ra, w3⟩
  by_cases hlt : n < ds.length
  · refine .inr ⟨gs.go H2 n (s3.le.trans g3.f) hlt, fun H' => ∃ ρ2 F2 h2 acc av, Good T F2 (jn h2 (sg D (.lst av))) H' ∧ h2 D = none ∧ Step F1 (jn a1 a2) H1 F2 (jn h2 (sg D (.lst av))) H' ∧ EnvO T F2 ρ2 (σ.set i none) h2 ∧ Reps T F2 acc av ∧ I (n + 1) acc ρ2,
      fun H' q => ⟨ds.length - (n + 1), by omega, rfl, hlt, q⟩, fun x H' y => ?_⟩
    obtain ⟨rfl, d, ed, rd⟩ := gs.yld H2 n x H' (s3.le.trans g3.f) hlt y
    obtain ⟨hi2, w4⟩ := turn n d acc ρ2 ed w3
    have dD : Dis h2 (sg D (HO.lst av)) := Dis.single dn
    obtain ⟨g4, s4⟩ := g3.drop
    -- the name is stored
    have g4' : Good T F2 (jn h2 emp) H' := by rw [jn_emp]; exact g4
    obtain ⟨h5, g5, s5, e5⟩ := EnvO.store (c := .fz d) (v := x) g4' Dis.empr e3 ⟨rd.mono s3.le, rfl⟩ hi2
    rw [jn_emp] at s5
    refine ⟨?_, ?_⟩
    · show ((wipe σ [i]).set i (some x)).set i none = wipe σ [i]
      rw [wip, List.set_set, List.set_set]
    · show cT T W0 wt ((wipe σ [i]).set i (some x)) H' _
      rw [wip]
      refine ⟨_, F2, h5, _, _, g5, e5, w4, fun b H3 o => ?_, fun cls d H' ⟨_, _, _, _, _, _, _, _, _, _, z⟩ => z⟩
      obtain ⟨ρ6, F6, h6, g6, s6, e6, w6⟩ := o
      obtain ⟨g7, s7, d7⟩ := frame g3 dD g6 (s5.trans g5.d s6)
      cases b with
      | false =>
        obtain ⟨b1, b2, b3, b4, bf⟩ := e6.forget (i := i)
        subst b3
        have g8 : Good T F6 (jn (jn b1 (sg D (.lst av))) b2) H3 := by rw [jn_swap d7.r'.symm]; exact g7
        obtain ⟨g9, s9⟩ := g8.drop
        have s7' : Step F2 (jn h2 (sg D (.lst av))) H' F6 (jn (jn b1 (sg D (.lst av))) b2) H3 := by rw [jn_swap d7.r'.symm]; exact s7
        have bf' := bf none
        rw [List.set_set, List.set_set] at bf'
        exact ⟨_, F6, b1, acc, av, g9, d7.l'.at', (s3.trans g3.d s7').trans g8.d s9, bf', ra.mono (s5.le.trans s6.le), w6⟩
      | true =>
        refine ⟨_, F6, h6, _, _, g6, e6, w6, fun v H4 o => ?_, fun cls d H' ⟨_, _, _, _, _, _, _, _, _, _, z⟩ => z⟩
        obtain ⟨c, ρ7, F7, k1, k2, g8, d8, s8, e8, r8, w8⟩ := o
        obtain ⟨d', ρ8, F8, he8, g9, s9, e9, r9, hl, w9⟩ := toD_run g8 d8 e8 r8 w8
        obtain ⟨g10, s10, d10⟩ := frame g7 d7 g9 (s8.trans g8.d s9)
        have at_ : H4 D = some (.lst av) := g10.o _ _ (jn_right d10 sg_at)
        refine ⟨av, at_, by rw [ra.length]; exact hl, ?_⟩
        have g10' := g10
        have s10' := s10
        rw [jn_comm d10] at g10' s10'
        obtain ⟨g11, s11⟩ := g10'.write (o' := .lst (av ++ [v])) d10.at' (fun _ z => nomatch z)
        obtain ⟨b1, b2, b3, b4, bf⟩ := e9.forget (i := i)
        subst b3
        have dn2 : Dis (sg D (HO.lst (av ++ [v]))) (jn b1 b2) := Dis.single' d10.at'
        rw [← jn_assoc (a := sg D (HO.lst (av ++ [v])))] at g11 s11
        rw [jn_comm dn2.l] at g11 s11
        obtain ⟨g12, s12⟩ := g11.drop
        have bf' := bf none
        rw [List.set_set, List.set_set] at bf'
        exact ⟨_, F8, b1, acc ++ [d'], av ++ [v], g12, d10.l'.at', ((((s3.trans g3.d s7).trans g7.d s10').trans g10'.d s11).trans g11.d s12), bf', (ra.mono (s5.le.trans (s6.le.trans (s8.le.trans s9.le)))).snoc r9, w9⟩
  · have ei : n = ds.length := by omega
    subst ei
    obtain ⟨un, w4⟩ := done acc ρ2 w3
    refine .inl ⟨gs.stop H2 (s3.le.trans g3.f), hQ _ _ ⟨.lst acc, ρ2, F2, h2, sg D (.lst av), g3, Dis.single dn, s1.trans g1.d s3, ?_, .inr ⟨D, av, rfl, rfl, ra⟩, w4⟩⟩
    cases q : σ[i]? with
    | none =>
      have : σ.set i none = σ := List.set_eq_of_length_le (List.getElem?_eq_none_iff.mp q)
      rw [this] at e3
      exact e3
    | some s =>
      have z := e3.reslot (s' := s) un
      rw [List.set_set, set_self q] at z
      exact z
end
end CL

/-! # CL: comprehensions as expressions and stores; built-in calls -/
namespace CL
open PySem L2
section
variable {T : Tabs} {W : WX} {X : Cx} {P : List Nat} {ρ ρ' : Env} {σ σ' : L2.St} {F F' h h' h1 h2 ha he H H' H'' : Hp} {E : Ends} {k : Ks} {wa wb wc : WE}
/-- a comprehension's tests -/
structure STs (T : Tabs) (X : Cx) (ifs : List Expr) (w : WT) : Prop where
  ex : PTs X ifs (cT T W0 w)
theorem sts_nil : STs T X [] wYes := ⟨⟨fun pins s σ H Q I ⟨ρ, F, h, K, Z, g, en, ww, hq, hz⟩ => pts_nil.run pins s σ H Q I (hq _ _ ⟨ρ, F, h, g, .refl, en, ww⟩)⟩⟩
theorem sts_one {c : Expr} {w : WT} (a : ST T W0 X c w) : STs T X [c] w := ⟨pts_one a.can⟩
theorem se_lc (i : Nat) {x : Str} {elt iter : Expr} {ifs : List Expr} {scope : Scope} {p pos : Pos} {wi : WI} {wt : WT} {w : WE} (hN : X.N.Nodup) (hc : X.calm = true) (a : SI T W X (.Name x p) iter wi) (ok : BlkOk X.N X.env.scope scope [(x, i)])
    (ht : ∀ (s : Shared) (H : Hp) (C : Addr) (cl : List (Str × Addr)) (fp : List Addr), STs T (X.blk s H scope (compEnvC scope cl C X.env) fp) ifs wt)
    (he : ∀ (s : Shared) (H : Hp) (C : Addr) (cl : List (Str × Addr)) (fp : List Addr), SE T W0 (X.blk s H scope (compEnvC scope cl C X.env) fp) elt w)
    (hi : X.N[i]? = some x := by rfl) (hx : ∀ (s : Shared) (H : Hp) (C : Addr) (cl : List (Str × Addr)) (fp : List Addr), Loc (X.blk s H scope (compEnvC scope cl C X.env) fp).env.scope x := by intros; first | exact .inl rfl | exact .inr rfl) (hf : ∀ (s : Shared) (H : Hp) (C : Addr) (cl : List (Str × Addr)) (fp : List Addr), (X.blk s H scope (compEnvC scope cl C X.env) fp).fn x = true ∨ (X.blk s H scope (compEnvC scope cl C X.env) fp).env.scope.names.lookup x = some .local := by intros; first | exact .inr rfl | exact .inl rfl) (hs : ∀ x, foldedSetIterable iter X.env x = pure x := by intro _; rfl) :
    SE T W X (.ListComp elt [⟨.Name x p, iter, ifs, 0⟩] scope pos) (wLc i wi wt w) := let ⟨_, a1, a2⟩ := a.ex
  ⟨⟨_, pe_lc (own := [(x, i)]) hc hN a1 ok (fun s H C cl fp => pg_name (X := X.blk s H scope (compEnvC scope cl C X.env) fp) hN hi (hx s H C cl fp) (hf s H C cl fp)) (fun s H C cl fp => (ht s H C cl fp).ex) (fun s H C cl fp => (he s H C cl fp).can) hs, sem_lc a2⟩⟩
/-- y = [..], one line -/
theorem ss_setLc (j i : Nat) {x y : Str} {elt iter : Expr} {ifs : List Expr} {scope : Scope} {p pos py spos : Pos} {wi : WI} {wt : WT} {w : WE} (hN : X.N.Nodup) (hc : X.calm = true) (a : SI T W X (.Name x p) iter wi) (ok : BlkOk X.N X.env.scope scope [(x, i)])
    (ht : ∀ (s : Shared) (H : Hp) (C : Addr) (cl : List (Str × Addr)) (fp : List Addr), STs T (X.blk s H scope (compEnvC scope cl C X.env) fp) ifs wt)
    (he : ∀ (s : Shared) (H : Hp) (C : Addr) (cl : List (Str × Addr)) (fp : List Addr), SE T W0 (X.blk s H scope (compEnvC scope cl C X.env) fp) elt w)
    (hi : X.N[i]? = some x := by rfl) (hx : ∀ (s : Shared) (H : Hp) (C : Addr) (cl : List (Str × Addr)) (fp : List Addr), Loc (X.blk s H scope (compEnvC scope cl C X.env) fp).env.scope x := by intros; first | exact .inl rfl | exact .inr rfl) (hf : ∀ (s : Shared) (H : Hp) (C : Addr) (cl : List (Str × Addr)) (fp : List Addr), (X.blk s H scope (compEnvC scope cl C X.env) fp).fn x = true ∨ (X.blk s H scope (compEnvC scope cl C X.env) fp).env.scope.names.lookup x = some .local := by intros; first | exact .inr rfl | exact .inl rfl) (hs : ∀ x, foldedSetIterable iter X.env x = pure x := by intro _; rfl)
    (hj : X.N[j]? = some y := by rfl) (hy : X.env.scope.names.lookup y = some .local := by rfl) (hk : X.env.scope.kind = .function := by rfl) (hl : (py.line == pos.line) = true := by rfl) (hno : (scope.names.any fun (n, k) => n == y && (k == .local || k == .cell)) = false := by decide +kernel) (hP : j ∉ P := by first | decide | exact List.not_mem_nil) :
    SS T W P X (.Assign [.Name y py] (.ListComp elt [⟨.Name x p, iter, ifs, 0⟩] scope pos) spos) (wSet j (wLc i wi wt w)) := let ⟨_, a1, a2⟩ := a.ex
  ⟨⟨_, ps_setLc (own := [(x, i)]) hc hN hj hy (sw_true hk hy hl hno) a1 ok (fun s H C cl fp => pg_name (X := X.blk s H scope (compEnvC scope cl C X.env) fp) hN hi (hx s H C cl fp) (hf s H C cl fp)) (fun s H C cl fp => (ht s H C cl fp).ex) (fun s H C cl fp => (he s H C cl fp).can) hs, sem_set hP (sem_lc a2)⟩⟩
/-! ### a pure comprehension -/
theorem lc_map {i : Nat} {ds : List D} {wi : WI} {w : WE} {K : Cell → Env → Prop} {Z : KX} (g : D → D) {ρ1 : Env} (h0 : wi ρ (fun es ρ' => es = ds ∧ ρ' = ρ1) Z) (hwi : ∀ K', K' ds ρ1 → wi ρ K' Z)
    (hi : i < ρ1.length) (hl : ds.length ≤ 1000000) (hu : ρ1[i]? = some .un) (he : ∀ d ∈ ds, ∀ K Z, K (.fz (g d)) (ρ1.set i (.fz d)) → w (ρ1.set i (.fz d)) K Z) (k : K (.lst (ds.map g)) ρ1) : wLc i wi wYes w ρ K Z := by
  refine hwi _ ⟨hi, fun n acc ρ2 => n ≤ ds.length ∧ acc = (ds.take n).map g ∧ ρ2 = ρ1, ⟨Nat.zero_le _, rfl, set_self hu⟩, ?_, ?_⟩
  · rintro n d acc ρ2 hd ⟨hn, ea, er⟩
    subst ea
    rw [er]
    refine ⟨hi, ?_⟩
    unfold wYes
    refine iteT ?_
    have hlt : n < ds.length := (List.getElem?_eq_some_iff.mp hd).1
    refine he d (List.mem_of_getElem? hd) _ _ ?_
    refine ⟨?_, hlt, ?_, ?_⟩
    · have : ((ds.take n).map g).length ≤ 1000000 := by simp; omega
      exact Nat.lt_of_le_of_lt this (by decide)
    · rw [List.take_succ, hd]
      simp
    · rw [List.set_set, set_self hu]
  · rintro acc ρ2 ⟨_, rfl, rfl⟩
    refine ⟨hu, ?_⟩
    rw [List.take_length]
    exact k
/-! ### built-in calls -/
theorem opS_len : ScS T (fun xs H Q => (∃ p ys, xs = [V.ref p] ∧ (SqL T.K H p ys ∨ SqT T.K H p ys) ∧ Q (.int ys.length) H) ∨ (∃ z : Str, xs = [.str z] ∧ z.length ≤ sizeLine ∧ Q (.int z.length) H) ∨ ∃ a kvs, xs = [V.ref a] ∧ H a = some (.dK kvs) ∧ Q (.int kvs.length) H) gLen := fun vs ds F H Q d l r e k => by
  unfold gLen at e
  split at e
  · cases e
    obtain ⟨x, rfl, ⟨p, xs, rfl, hp, rx⟩⟩ := svs1 r rfl
    exact .inl ⟨p, xs, rfl, .inl (.of hp), by rw [rx.length]; exact k _ rfl⟩
  · cases e
    obtain ⟨x, rfl, ⟨p, xs, rfl, hp, rx⟩⟩ := svs1 r rfl
    exact .inl ⟨p, xs, rfl, .inr (.of (l _ _ hp)), by rw [rx.length]; exact k _ rfl⟩
  · rename_i ns
    cases e
    obtain ⟨x, rfl, ⟨p, rfl, hp⟩⟩ := svs1 r rfl
    exact .inl ⟨p, _, rfl, .inl (SqL.le l hp), by rw [List.length_map]; exact k _ rfl⟩
  · cases e
    obtain ⟨x, rfl, ⟨p, xs, rfl, hp, hl, rx⟩⟩ := svs1 r rfl
    refine .inr (.inr ⟨p, _, rfl, hp, k _ ?_⟩)
    rw [List.length_zip, rx.length, ← hl, Nat.min_self]
    rfl
  · split at e
    · cases e
      obtain ⟨x, rfl, a⟩ := svs1 r rfl
      cases a
      exact .inr (.inl ⟨_, rfl, by assumption, k _ rfl⟩)
    · cases e
  · cases e
variable {a b : Expr} {es : List Expr} {pos p : Pos} {wr : WA}
theorem se_len (hk : X.K = T.K) (hm : X.mg "len" = none) (ha : SE T W X a wa) (hg : Gl X "len" := by rfl) (he : starEach [a] X.env = (false, eval a X.env) :: starEach [] X.env := by rfl) (hpl : (backTo pos (starEach [] X.env)).any (·.1) = false := by rfl) : SE T W X (.Call (.Name "len" p) [a] [] pos) (w1 (fS gLen) wa) :=
  se_callB (call_len_seq.or (call_len_str.or call_lenD)) (op_fS (by rw [hk]; exact opS_len)) hm PySem.boot_len (sa_cons ha sa_nil he) hg (by decide) (by decide) he hpl
def gList : List D → Option (List D)
  | [.lst ds] => some ds
  | [.tup ds] => some ds
  | [.scr ns] => if ns.length ≤ 1000000 then some (ns.map D.int) else none
  | _ => none
theorem opS_list : AlL T (fun xs H Q => ∃ p ys, xs = [V.ref p] ∧ (SqL T.K H p ys ∨ SqT T.K H p ys) ∧ ∀ l, H l = none → Q (.ref l) (upd H l (.lst ys))) gList := fun vs ds F H Q d l r e k => by
  unfold gList at e
  split at e
  · cases e
    obtain ⟨x, rfl, ⟨p, xs, rfl, hp, rx⟩⟩ := svs1 r rfl
    exact ⟨p, xs, rfl, .inl (.of hp), fun q hq => k q xs hq rx⟩
  · cases e
    obtain ⟨x, rfl, ⟨p, xs, rfl, hp, rx⟩⟩ := svs1 r rfl
    exact ⟨p, xs, rfl, .inr (.of (l _ _ hp)), fun q hq => k q xs hq rx⟩
  · split at e
    · cases e
      obtain ⟨x, rfl, ⟨p, rfl, hp⟩⟩ := svs1 r rfl
      exact ⟨p, _, rfl, .inl (SqL.le l hp), fun q hq => k q _ hq (Reps.ints _)⟩
    · cases e
  · cases e
theorem se_list (hk : X.K = T.K) (hm : X.mg "list" = none) (ha : SE T W X a wa) (hg : Gl X "list" := by rfl) (he : starEach [a] X.env = (false, eval a X.env) :: starEach [] X.env := by rfl) (hpl : (backTo pos (starEach [] X.env)).any (·.1) = false := by rfl) : SE T W X (.Call (.Name "list" p) [a] [] pos) (w1 (fL gList) wa) :=
  se_callTy call_list_of (op_fL (by rw [hk]; exact opS_list)) hm (by decide +kernel) (sa_cons ha sa_nil he) hg (by decide) (by decide) he hpl
/-- tuple(x) -/
def fTuple : WF := fun cs ρ K => opt (svs ρ cs) fun ds => match ds with
  | [.lst es] => K (.fz (.tup es)) ρ
  | [.tup es] => K (.fz (.tup es)) ρ
  | _ => False
theorem opS_tuple : OpS T (fun xs H Q => ∃ p ys, xs = [V.ref p] ∧ ((SqL T.K H p ys ∧ ∀ l, H l = none → Q (.ref l) (upd H l (.tup ys))) ∨ (SqT T.K H p ys ∧ Q (.ref p) H))) fTuple := fun cs ρ vs σ F he ha H Q K' g dd e ro w hQ => by
  obtain ⟨ds, e1, w⟩ := opt_of w
  have r := ROs.svs g dd e ro Le.refl e1
  revert w
  split
  · intro w
    obtain ⟨x, rfl, ⟨p, xs, rfl, hp, rx⟩⟩ := svs1 r rfl
    exact ⟨p, xs, rfl, .inl ⟨.of hp, newU g e rx w hQ⟩⟩
  · intro w
    obtain ⟨x, rfl, ⟨p, xs, rfl, hp, rx⟩⟩ := svs1 r rfl
    exact ⟨p, xs, rfl, .inr ⟨.of (g.f _ _ hp), hQ _ _ (.fzDrop (d := .tup _) g e ⟨p, xs, rfl, hp, rx⟩ w)⟩⟩
  · exact fun w => w.elim
theorem se_tuple (hk : X.K = T.K) (hm : X.mg "tuple" = none) (ha : SE T W X a wa) (hg : Gl X "tuple" := by rfl) (he : starEach [a] X.env = (false, eval a X.env) :: starEach [] X.env := by rfl) (hpl : (backTo pos (starEach [] X.env)).any (·.1) = false := by rfl) : SE T W X (.Call (.Name "tuple" p) [a] [] pos) (w1 fTuple wa) :=
  se_callTy call_tuple_of (by rw [hk]; exact opS_tuple) hm (by decide +kernel) (sa_cons ha sa_nil he) hg (by decide) (by decide) he hpl
/-! ### lists of ints -/
def asInts : List D → Option (List Int)
  | [] => some []
  | .int i :: ds => (asInts ds).map (i :: ·)
  | _ :: _ => none
theorem ints_map (ns : List Int) : asInts (ns.map D.int) = some ns := by induction ns with
  | nil => rfl
  | cons n r ih => simp [asInts, ih]
theorem ints_of : ∀ {ds : List D} {ns : List Int}, asInts ds = some ns → ds = ns.map D.int
  | [], _, e => by cases e; rfl
  | d :: ds, ns, e => by
    cases d with
    | int i =>
      simp only [asInts] at e
      cases q : asInts ds with
      | none => rw [q] at e; cases e
      | some ms => rw [q] at e; cases e; rw [ints_of q]; rfl
    | _ => simp [asInts] at e
/-- insertion sort -/
def ins (a : Int) : List Int → List Int
  | [] => [a]
  | b :: r => if a ≤ b then a :: b :: r else b :: ins a r
def isrt : List Int → List Int
  | [] => []
  | a :: r => ins a (isrt r)
theorem ins_perm (a : Int) : ∀ l, (ins a l).Perm (a :: l)
  | [] => .refl _
  | b :: r => by
    unfold ins
    split
    · exact .refl _
    · exact ((ins_perm a r).cons b).trans (.swap a b r)
theorem isrt_perm : ∀ l, (isrt l).Perm l
  | [] => .refl _
  | a :: r => (ins_perm a _).trans ((isrt_perm r).cons a)
theorem ins_sorted (a : Int) : ∀ l : List Int, l.Pairwise (· ≤ ·) → (ins a l).Pairwise (· ≤ ·)
  | [], _ => by simp [ins]
  | b :: r, h => by
    unfold ins
    have h' := List.pairwise_cons.mp h
    split
    · rename_i q
      exact List.pairwise_cons.mpr ⟨fun x hx => (List.mem_cons.mp hx).elim (fun e => e ▸ q) fun m => Int.le_trans q (h'.1 x m), h⟩
    · rename_i q
      refine List.pairwise_cons.mpr ⟨fun x hx => ?_, ins_sorted a r h'.2⟩
      rcases List.mem_cons.mp ((ins_perm a r).mem_iff.mp hx) with e | m
      · subst e; omega
      · exact h'.1 x m
theorem isrt_sorted : ∀ l, (isrt l).Pairwise (· ≤ ·)
  | [] => .nil
  | a :: r => ins_sorted a _ (isrt_sorted r)
theorem sorted_unique : ∀ {l m : List Int}, l.Perm m → l.Pairwise (· ≤ ·) → m.Pairwise (· ≤ ·) → l = m
  | [], m, p, _, _ => (List.Perm.eq_nil p.symm).symm ▸ rfl
  | a :: l, [], p, _, _ => absurd p.length_eq (by simp)
  | a :: l, b :: m, p, h, h' => by
    have h1 := List.pairwise_cons.mp h
    have h2 := List.pairwise_cons.mp h'
    have ab : a = b := by
      have x : a ∈ b :: m := p.mem_iff.mp List.mem_cons_self
      have y : b ∈ a :: l := p.mem_iff.mpr List.mem_cons_self
      rcases List.mem_cons.mp x with e | m1
      · exact e
      · rcases List.mem_cons.mp y with e | m2
        · exact e.symm
        · have := h2.1 a m1
          have := h1.1 b m2
          omega
    subst ab
    rw [sorted_unique (List.Perm.cons_inv p) h1.2 h2.2]
theorem isrt_eq {l m : List Int} (p : m.Perm l) (h : m.Pairwise (· ≤ ·)) : m = isrt l := sorted_unique (p.trans (isrt_perm l).symm) h (isrt_sorted l)
def gSum : List D → Option D
  | [.lst ds] => (asInts ds).map fun ns => .int ns.sum
  | _ => none
theorem Reps.ofI {ds : List D} {xs : List V} {ns : List Int} (r : Reps T F ds xs) (h : asInts ds = some ns) : xs = ns.map V.int := by
  rw [ints_of h] at r
  exact r.ofInts
theorem se_sum (hc : X.calm = true) (hm : X.mg "sum" = none) (ha : SE T W X a wa) (hg : Gl X "sum" := by rfl) (he : starEach [a] X.env = (false, eval a X.env) :: starEach [] X.env := by rfl) (hpl : (backTo pos (starEach [] X.env)).any (·.1) = false := by rfl) : SE T W X (.Call (.Name "sum" p) [a] [] pos) (w1 (fS gSum) wa) :=
  se_callB (cr_sum hc) (op_fS fun vs ds F H Q d l r e k => by
    unfold gSum at e
    split at e
    · rename_i es
      cases q : asInts es with
      | none => rw [q] at e; cases e
      | some ns =>
        rw [q] at e
        cases e
        obtain ⟨x, rfl, ⟨p, xs, rfl, hp, rx⟩⟩ := svs1 r rfl
        rw [rx.ofI q] at hp
        exact ⟨p, ns, rfl, .of hp, k _ rfl⟩
    · cases e) hm (by decide +kernel) (sa_cons ha sa_nil he) hg (by decide) (by decide) he hpl
/-! ### numbers -/
def gInt : List D → Option D
  | [.int i] => some (.int i)
  | [.bl b] => some (.int (if b then 1 else 0))
  | _ => none
theorem se_int1 (hm : X.mg "int" = none) (ha : SE T W X a wa) (hg : Gl X "int" := by rfl) (he : starEach [a] X.env = (false, eval a X.env) :: starEach [] X.env := by rfl) (hpl : (backTo pos (starEach [] X.env)).any (·.1) = false := by rfl) : SE T W X (.Call (.Name "int" p) [a] [] pos) (w1 (fS gInt) wa) :=
  se_callTy call_int1 (op_fS fun vs ds F H Q d l r e k => by
    unfold gInt at e
    split at e
    · cases e
      obtain ⟨x, rfl, a⟩ := svs1 r rfl
      cases a
      exact .inl ⟨_, rfl, k _ rfl⟩
    · cases e
      obtain ⟨x, rfl, a⟩ := svs1 r rfl
      cases a
      exact .inr ⟨_, rfl, k _ rfl⟩
    · cases e) hm (by decide +kernel) (sa_cons ha sa_nil he) hg (by decide) (by decide) he hpl
def gMax2 : List D → Option D := gI2 (fun _ _ => true) fun i j => .int (if j > i then j else i)
def gMin2 : List D → Option D := gI2 (fun _ _ => true) fun i j => .int (if j < i then j else i)
/-- list(range(..)) -/
def wLRg1 (w : WE) : WE := fun ρ K Z => w ρ (fun c ρ1 => match c with
  | .fz (.int n) => (0 ≤ n ∧ n ≤ 1000000) ∧ K (.lst (rangeD 0 n.toNat)) ρ1
  | _ => False) Z
def wLRg2 (wa wb : WE) : WE := fun ρ K Z => wa ρ (fun c ρ1 => wb ρ1 (fun d ρ2 => match c, d with
  | .fz (.int i), .fz (.int j) => (0 ≤ i ∧ j ≤ 1000000 ∧ i ≤ 1000000 ∧ 0 ≤ j) ∧ K (.lst (rangeD i (j - i).toNat)) ρ2
  | _, _ => False) Z) Z
theorem reps_range (i : Int) (n : Nat) (j : Int) (hn : (j - i).toNat = n) : Reps T F (rangeD i n) (rgV i j) := by
  have : rgV i j = (((List.range n).map fun k : Nat => i + (k : Int)).map V.int) := by
    simp [rgV, hn]
  rw [this]
  have e2 : rangeD i n = (((List.range n).map fun k : Nat => i + (k : Int)).map D.int) := by simp [rangeD]
  rw [e2]
  exact Reps.ints _
theorem se_lrange1 {p1 p2 : Pos} (hc : X.calm = true) (hml : X.mg "list" = none) (hm : X.mg "range" = none) (ha : SE T W X a wa) (hgl : Gl X "list" := by rfl) (hg : Gl X "range" := by rfl) (na : starEach [a] X.env = (false, eval a X.env) :: starEach [] X.env := by rfl) (nb : starEach [.Call (.Name "range" p1) [a] [] p2] X.env = (false, eval (.Call (.Name "range" p1) [a] [] p2) X.env) :: starEach [] X.env := by rfl) :
    SE T W X (.Call (.Name "list" p) [.Call (.Name "range" p1) [a] [] p2] [] pos) (wLRg1 wa) := let ⟨_, a1, a2⟩ := ha.ex
  ⟨⟨_, pe_listRg hc hgl hml (prg_1 hg hm a1 na) nb, fun ρ σ F h H Q K Z g e w hQ hZ => by
    refine a2 ρ σ F h H _ _ Z g e w (fun v H1 o => ?_) hZ
    obtain ⟨c1, ρ1, F1, k1, k2, g1, d1, s1, e1, r1, w1⟩ := o
    revert w1
    split
    · rename_i n
      intro w1
      obtain ⟨rfl, rfl⟩ := r1.int
      have g1' := g1
      rw [jn_emp] at g1' s1
      refine ⟨n, rfl, ?_, ?_⟩
      · exact RgOk.of_le (Int.le_refl 0) (by omega) (by decide) w1.1.1
      · exact newL g1 e1 (reps_range 0 n.toNat n (by simp)) w1.2 fun v H' o => hQ v H' (.pre s1 g1' (by rw [jn_emp] at o; exact o))
    · exact fun w => w.elim⟩⟩
theorem se_lrange2 {p1 p2 : Pos} (hc : X.calm = true) (hml : X.mg "list" = none) (hm : X.mg "range" = none) (ha : SE T W X a wa) (hb : SE T W X b wb) (hgl : Gl X "list" := by rfl) (hg : Gl X "range" := by rfl) (na : starEach [a, b] X.env = (false, eval a X.env) :: starEach [b] X.env := by rfl) (nb : starEach [b] X.env = (false, eval b X.env) :: starEach [] X.env := by rfl)
    (hp : (backTo p2 (starEach [b] X.env)).any (·.1) = false := by rfl) (nc : starEach [.Call (.Name "range" p1) [a, b] [] p2] X.env = (false, eval (.Call (.Name "range" p1) [a, b] [] p2) X.env) :: starEach [] X.env := by rfl) :
    SE T W X (.Call (.Name "list" p) [.Call (.Name "range" p1) [a, b] [] p2] [] pos) (wLRg2 wa wb) := let ⟨_, a1, a2⟩ := ha.ex; let ⟨_, b1, b2⟩ := hb.ex
  ⟨⟨_, pe_listRg hc hgl hml (prg_2 hg hm a1 b1 na nb hp) nc, fun ρ σ F h H Q K Z g e w hQ hZ => by
    refine a2 ρ σ F h H _ _ Z g e w (fun v H1 o => ?_) hZ
    obtain ⟨c1, ρ1, F1, k1, k2, g1, d1, s1, e1, r1, w1⟩ := o
    obtain ⟨gd, sd⟩ := g1.drop
    refine b2 ρ1 σ F1 k1 H1 _ _ Z gd e1 w1 (fun y H2 o => ?_) (fun cls d H2 o => hZ cls d H2 (.pre s1 g1 (.pre sd gd o)))
    obtain ⟨c2, ρ2, F2, l1, l2, g2, d2, s2, e2, r2, w2⟩ := o
    revert w2
    split
    · rename_i i j
      intro w2
      obtain ⟨rfl, rfl⟩ := r1.int
      obtain ⟨rfl, rfl⟩ := r2.int
      rw [jn_emp] at g1 s1 sd
      have s12 := s1.trans g1.d s2
      refine ⟨i, j, rfl, rfl, RgOk.of_le w2.1.1 (Int.le_trans w2.1.2.1 (by decide)) (Int.le_trans w2.1.2.2.1 (by decide)) w2.1.2.2.2, ?_⟩
      exact newL g2 e2 (reps_range i _ j rfl) w2.2 fun v H' o => hQ v H' (.pre s12 g2 o)
    · exact fun w => w.elim⟩⟩
theorem se_max2 (hc : X.calm = true) (hm : X.mg "max" = none) (ha : SE T W X a wa) (hb : SE T W X b wb) (hg : Gl X "max" := by rfl) (he : starEach [a, b] X.env = (false, eval a X.env) :: starEach [b] X.env := by rfl) (he2 : starEach [b] X.env = (false, eval b X.env) :: starEach [] X.env := by rfl) (hpl : (backTo pos (starEach [b] X.env)).any (·.1) = false := by rfl) : SE T W X (.Call (.Name "max" p) [a, b] [] pos) (w2 (fS gMax2) wa wb) :=
  se_callB (call_max2 hc) (op_fS fun vs ds F H Q d l r e k => by
    obtain ⟨i, j, rfl, cc, rfl⟩ := gI2_of e
    obtain ⟨x, y, rfl, a, b⟩ := svs2 r rfl
    cases a; cases b
    exact ⟨i, j, rfl, k _ rfl⟩) hm (by decide +kernel) (sa_cons ha (sa_cons hb sa_nil he2) he) hg (by decide) (by decide) he hpl
theorem se_min2 (hc : X.calm = true) (hm : X.mg "min" = none) (ha : SE T W X a wa) (hb : SE T W X b wb) (hg : Gl X "min" := by rfl) (he : starEach [a, b] X.env = (false, eval a X.env) :: starEach [b] X.env := by rfl) (he2 : starEach [b] X.env = (false, eval b X.env) :: starEach [] X.env := by rfl) (hpl : (backTo pos (starEach [b] X.env)).any (·.1) = false := by rfl) : SE T W X (.Call (.Name "min" p) [a, b] [] pos) (w2 (fS gMin2) wa wb) :=
  se_callB (call_min2 hc) (op_fS fun vs ds F H Q d l r e k => by
    obtain ⟨i, j, rfl, cc, rfl⟩ := gI2_of e
    obtain ⟨x, y, rfl, a, b⟩ := svs2 r rfl
    cases a; cases b
    exact ⟨i, j, rfl, k _ rfl⟩) hm (by decide +kernel) (sa_cons ha (sa_cons hb sa_nil he2) he) hg (by decide) (by decide) he hpl
end
end CL

/-! # CL: defs and their calls, objects -/
namespace CL
open PySem L2
/-- what a call gives: a value | an exception; and what its first argument is then (where it is borrowed) -/
inductive FOut where
  | ok (c c0 : Cell) | ex (x : Exc) (c0 : Cell)
structure FSpec where
  A : Type
  bor : Option Nat
  args : A → List Cell
  pre : A → Prop
  out : A → FOut → Prop
def FSpec.bi (S : FSpec) : Nat := S.bor.getD 0
def spOf (T : Tabs) (S : FSpec) : Sp := fun vs H Q E => ∃ (a : S.A) (F h : Hp), Good T F h H ∧ S.pre a ∧ COs T F (S.args a) vs h ∧
  (∀ c c0, S.out a (.ok c c0) → ∀ v F' h1 h2 H', Good T F' (jn h1 h2) H' → Dis h1 h2 → Step F h H F' (jn h1 h2) H' → CO T F' c0 (vs.getD S.bi .non) h1 → CO T F' c v h2 → Q v H') ∧
  (∀ x c0, S.out a (.ex x c0) → ∀ cls d F' h1 h2 H', Good T F' (jn h1 h2) H' → Dis h1 h2 → Step F h H F' (jn h1 h2) H' → CO T F' c0 (vs.getD S.bi .non) h1 → XO T F' x cls d h2 → E cls d H')
/-- the def x keeps S -/
def FnR (P : Program) (w : World) (K : PySem.W.Frag) (mg : Str → Option Value) (base : Heap) (A : Around) (T : Tabs) (x : Str) (S : FSpec) : Prop :=
  ∃ k f fd ps, FnOk P w K mg base (L2N.CX P w) k f fd ps (spOf T S) ∧ Room k A ∧ mg x = some (.ref f) ∧ PySem.W.keepIn K (.ref f) = true ∧ Binds K fd ps []
section
variable {T : Tabs} {W : WX} {X : Cx} {P : List Nat} {ρ ρ' : Env} {σ σ' : L2.St} {F F' h h' h1 h2 ha he H H' H'' : Hp} {E : Ends} {k : Ks} {wa wb wc : WE} {S : FSpec}
theorem cos_fz : ∀ {ds : List D} {vs : List V}, Reps T F ds vs → COs T F (ds.map .fz) vs emp
  | [], _, r => by cases r; exact ⟨rfl, rfl⟩
  | _ :: _, _, ⟨x, r, e, a, b⟩ => ⟨x, r, emp, emp, e, Dis.empr, by rw [jn_emp], ⟨a, rfl⟩, cos_fz b⟩
theorem good_emp (g : Good T F h H) : Good T F emp H := by
  have g' : Good T F (jn emp h) H := by rw [emp_jn]; exact g
  exact g'.drop.1
theorem step_emp (g : Good T F h H) : Step F h H F emp H := by
  have g' : Good T F (jn emp h) H := by rw [emp_jn]; exact g
  have := g'.drop.2
  rw [emp_jn] at this
  exact this
/-- a call by values -/
def wCallV (S : FSpec) (wr : WA) : WE := fun ρ K Z => wr ρ (fun cs ρ1 => toDs ρ1 cs fun ds ρ2 => ∃ a, S.args a = ds.map .fz ∧ S.pre a ∧ ∀ o, S.out a o → match o with
  | .ok c _ => K c ρ2
  | .ex x _ => Z x ρ2) Z
theorem sem_callV {tr : TA} {wr : WA} (b : SemA T W tr wr) : SemE T W (tCallS (spOf T S) (L2.WE W) tr) (wCallV S wr) := fun ρ σ F h H Q K Z g e w hQ hZ => by
  refine b ρ σ F h H _ _ Z g e w (fun vs H1 o => ?_) hZ
  obtain ⟨cs, ρ1, F1, k1, k2, g1, d1, s1, e1, r1, w1⟩ := o
  obtain ⟨ds, ρ2, F2, he2, g2, s2, e2, r2, a, ea, hp, w2⟩ := toDs_run g1 d1 e1 r1 w1
  have s12 := s1.trans g1.d s2
  have g2' : Good T F2 (jn emp he2) H1 := by rw [emp_jn]; exact g2
  have fr : ∀ {F' h1 h2 H'}, Good T F' (jn h1 h2) H' → Dis h1 h2 → Step F2 emp H1 F' (jn h1 h2) H' → Good T F' (jn he2 h2) H' ∧ Dis he2 h2 ∧ Step F2 he2 H1 F' (jn he2 h2) H' := fun {F' h1 h2 H'} g3 d3 s3 => by
    obtain ⟨g4, s4, d4⟩ := frame g2' Dis.empl g3 s3
    rw [emp_jn] at s4
    have e4 : jn (jn h1 h2) he2 = jn (jn he2 h2) h1 := by rw [jn_comm d4, jn_comm d3, jn_assoc]
    rw [e4] at g4 s4
    obtain ⟨g5, s5⟩ := g4.drop
    exact ⟨g5, d4.r'.symm, s4.trans g4.d s5⟩
  refine ⟨a, F2, emp, good_emp g2, hp, by rw [ea]; exact cos_fz r2, fun c c0 eo v F' h1 h2 H' g3 d3 s3 _ rv => ?_, fun x c0 eo cls d F' h1 h2 H' g3 d3 s3 _ rv => ?_⟩
  · replace w2 := w2 _ eo
    obtain ⟨g5, d5, s5⟩ := fr g3 d3 s3
    exact hQ _ _ ⟨c, ρ2, F', he2, h2, g5, d5, s12.trans g2.d s5, e2.mono s3.le, .inr rv, w2⟩
  · replace w2 := w2 _ eo
    obtain ⟨g5, d5, s5⟩ := fr g3 d3 s3
    exact hZ _ _ _ ⟨x, ρ2, F', he2, h2, g5, d5, s12.trans g2.d s5, e2.mono s3.le, rv, w2⟩
variable {a b e : Expr} {es : List Expr} {pos p : Pos} {wr : WA}
theorem se_callV {x : Str} (tk : L2N.Takes X W) (f : FnR X.prog X.w X.K X.mg X.base X.A T x S) (ha : SA T W X (e :: es) wr) (hg : Gl X x := by rfl) (hdb : (x == ("__debug__" : Str)) = false := by decide) (he : starEach (e :: es) X.env = (false, eval e X.env) :: starEach es X.env := by rfl) (hpl : (backTo pos (starEach es X.env)).any (·.1) = false := by rfl) :
    SE T W X (.Call (.Name x p) (e :: es) [] pos) (wCallV S wr) := let ⟨_, _, _, _, F, hr, hm, hk, hb⟩ := f; let ⟨_, a1, a2⟩ := ha.ex
  ⟨⟨_, pe_callS F hr hg hm hk hb (fun σ => L2N.passAt tk σ) a1 hdb he hpl, sem_callV a2⟩⟩
/-- the first argument is the object of slot i, borrowed -/
def live (ρ : Env) (i : Nat) : Bool := match ρ[i]? with
  | some .un => false
  | some (.ali _) => false
  | none => false
  | _ => true
def wCallB (S : FSpec) (i : Nat) (wr : WA) : WE := fun ρ K Z => live ρ i = true ∧ wr ρ (fun cs ρ1 => toDs ρ1 cs fun ds ρ2 => opt ρ2[i]? fun c => ∃ a, S.args a = c :: ds.map .fz ∧ S.pre a ∧ ∀ o, S.out a o → match o with
  | .ok r c0 => K r (ρ2.set i c0)
  | .ex x c0 => Z x (ρ2.set i c0)) Z
theorem EnvO.live {i : Nat} (e : EnvO T F ρ σ he) (q : CL.live ρ i = true) : ∃ x, σ[i]? = some (some x) := by
  unfold CL.live at q
  cases h : ρ[i]? with
  | none => rw [h] at q; cases q
  | some c =>
    obtain ⟨s, _, _, x1, _, _, x4, _⟩ := e.get h
    rcases x4 with ⟨z, _⟩ | ⟨v, rfl, _⟩
    · subst z; rw [h] at q; cases q
    · exact ⟨v, x1⟩
theorem sem_callB {i : Nat} {tr : TA} {wr : WA} (h0 : S.bi = 0) (b : SemA T W tr wr) : SemE T W (tCallS (spOf T S) (L2.WE W) (tCons (tVar i) tr)) (wCallB S i wr) := fun ρ σ F h H Q K Z g e w hQ hZ => by
  obtain ⟨lv, w⟩ := w
  obtain ⟨x, hx⟩ := e.live lv
  refine ⟨x, hx, b ρ σ F h H _ _ Z g e w (fun vs H1 o => ?_) hZ⟩
  obtain ⟨cs, ρ1, F1, k1, k2, g1, d1, s1, e1, r1, w1⟩ := o
  obtain ⟨ds, ρ2, F2, he2, g2, s2, e2, r2, w2⟩ := toDs_run g1 d1 e1 r1 w1
  obtain ⟨c, ec, a, ea, hp, w2⟩ := opt_of w2
  have s12 := s1.trans g1.d s2
  obtain ⟨s, l1, l2, x1, x2, x3, x4, f⟩ := e2.get ec
  rw [hx] at x1
  cases x1
  subst x3
  have co : CO T F2 c x l1 := by
    rcases x4 with ⟨z, z2⟩ | ⟨v, ev, z⟩
    · subst z; exact z2
    · cases ev; exact z
  have fr : ∀ {F' h1 h2 H'}, Good T F' (jn h1 h2) H' → Dis h1 h2 → Step F2 l1 H1 F' (jn h1 h2) H' → Good T F' (jn (jn h1 l2) h2) H' ∧ Dis (jn h1 l2) h2 ∧ Step F2 (jn l1 l2) H1 F' (jn (jn h1 l2) h2) H' ∧ Dis h1 l2 := fun {F' h1 h2 H'} g3 d3 s3 => by
    obtain ⟨g4, s4, d4⟩ := frame g2 x2 g3 s3
    rw [jn_swap d4.r'] at g4 s4
    exact ⟨g4, Dis.both' d3 d4.r'.symm, s4, d4.l'⟩
  refine ⟨a, F2, l1, ?_, hp, ?_, fun r c0 eo v F' h1 h2 H' g3 d3 s3 rc rv => ?_, fun y c0 eo cls d F' h1 h2 H' g3 d3 s3 rc rv => ?_⟩
  · exact g2.drop.1
  · rw [ea]
    exact ⟨x, vs, l1, emp, rfl, Dis.empr, by rw [jn_emp], co, cos_fz r2⟩
  · replace w2 := w2 _ eo
    rw [h0] at rc
    obtain ⟨g5, d5, s5, d6⟩ := fr g3 d3 s3
    have z := f F' c0 (some x) h1 s3.le d6 (.inr ⟨x, rfl, rc⟩)
    rw [set_self hx] at z
    exact hQ _ _ ⟨r, _, F', _, h2, g5, d5, s12.trans g2.d s5, z, .inr rv, w2⟩
  · replace w2 := w2 _ eo
    rw [h0] at rc
    obtain ⟨g5, d5, s5, d6⟩ := fr g3 d3 s3
    have z := f F' c0 (some x) h1 s3.le d6 (.inr ⟨x, rfl, rc⟩)
    rw [set_self hx] at z
    exact hZ _ _ _ ⟨y, _, F', _, h2, g5, d5, s12.trans g2.d s5, z, rv, w2⟩
theorem se_callB' {x y : Str} {i : Nat} {p1 : Pos} (tk : L2N.Takes X W) (f : FnR X.prog X.w X.K X.mg X.base X.A T x S) (ha : SA T W X es wr) (hN : X.N[i]? = some y := by rfl) (hv : Vis X.env.scope y := by first | exact Or.inl rfl | exact Or.inr (Or.inl rfl) | exact Or.inr (Or.inr rfl)) (hd : (y == ("__debug__" : Str)) = false := by decide) (hcd : (y == ("__classdict__" : Str)) = false := by decide)
    (hg : Gl X x := by rfl) (hdb : (x == ("__debug__" : Str)) = false := by decide) (he : starEach (.Name y p1 :: es) X.env = (false, eval (.Name y p1) X.env) :: starEach es X.env := by rfl) (hpl : (backTo pos (starEach es X.env)).any (·.1) = false := by rfl) (h0 : S.bi = 0 := by rfl) :
    SE T W X (.Call (.Name x p) (.Name y p1 :: es) [] pos) (wCallB S i wr) := let ⟨_, _, _, _, F, hr, hm, hk, hb⟩ := f; let ⟨_, a1, a2⟩ := ha.ex
  ⟨⟨_, pe_callS F hr hg hm hk hb (fun σ => L2N.passAt tk σ) (pa_cons (pe_var hN hv hd hcd) a1 he) hdb he hpl, sem_callB h0 a2⟩⟩
/-! ### a def's body -/
def aftO : Option Nat → Env → Cell
  | some j, ρ => (ρ[j]?).getD .un
  | none, _ => .un
def aft (S : FSpec) (ρ : Env) : Cell := aftO S.bor ρ
def endK (S : FSpec) (a : S.A) : Ks where
  nx := fun ρ => S.out a (.ok (.fz .non) (aft S ρ))
  rt := fun c ρ => S.out a (.ok c (aft S ρ))
  bk := fun _ => False
  ct := fun _ => False
  xc := fun x ρ => S.out a (.ex x (aft S ρ))
abbrev WD (E : XK) : WX := fun cls d _ H => E cls d H
def pinO : Option Nat → List Nat
  | some j => [j]
  | none => []
def pinned (S : FSpec) : List Nat := pinO S.bor
theorem env_start : ∀ {cs : List Cell} {vs : List V} {h : Hp} (n : Nat), COs T F cs vs h → EnvO T F (cs ++ List.replicate n .un) (vs.map some ++ List.replicate n none) h
  | [], _, _, 0, ⟨e, z⟩ => by subst e; subst z; exact ⟨rfl, rfl⟩
  | [], _, _, n + 1, ⟨e, z⟩ => by
    subst e; subst z
    exact ⟨none, _, emp, emp, rfl, Dis.empr, by rw [jn_emp], .inl ⟨rfl, rfl⟩, env_start (cs := []) (vs := []) n ⟨rfl, rfl⟩⟩
  | c :: cs, _, _, n, ⟨x, r, h1, h2, e, dd, z, a, b⟩ => by subst e; exact ⟨some x, _, h1, h2, rfl, dd, z, .inr ⟨x, rfl, a⟩, env_start n b⟩
theorem aft_ok {vs : List V} (e : EnvO T F ρ σ' h1) (hs : ∀ j, S.bor = some j → σ'[j]? = some (some (vs.getD j .non))) : ∃ l1 l2, h1 = jn l1 l2 ∧ Dis l1 l2 ∧ CO T F (aft S ρ) (vs.getD S.bi .non) l1 := by
  unfold aft FSpec.bi
  cases hb : S.bor with
  | none => exact ⟨emp, h1, by rw [emp_jn], Dis.empl, rfl⟩
  | some j =>
    have hs' := hs j hb
    show ∃ l1 l2, h1 = jn l1 l2 ∧ Dis l1 l2 ∧ CO T F ((ρ[j]?).getD .un) (vs.getD j .non) l1
    cases q : ρ[j]? with
    | none =>
      exact ⟨emp, h1, by rw [emp_jn], Dis.empl, rfl⟩
    | some c =>
      obtain ⟨s, l1, l2, x1, x2, x3, x4, f⟩ := e.get q
      rw [hs'] at x1
      cases x1
      refine ⟨l1, l2, x3, x2, ?_⟩
      rcases x4 with ⟨z, z2⟩ | ⟨v', ev, z⟩
      · subst z; exact z2
      · cases ev; exact z
theorem body_ok {st : List Stmt} {w : WS} {t : TS} {vs : List V} {Q : VK} {E : XK} {n : Nat} (sm : SemS T (WD E) (pinned S) t w) (hl : ∀ a j, S.bor = some j → j < (S.args a).length) (sem : ∀ a, S.pre a → w (S.args a ++ List.replicate n .un) (endK S a)) (hsp : spOf T S vs H Q E) :
    t { nx := fun _ H' => Q .non H', rt := Q } (vs.map some ++ List.replicate n none) H := by
  obtain ⟨a, F, h, g, hp, co, ok, ex⟩ := hsp
  have hlen := co.length
  have ag : ∀ {σ'}, Ag (pinned S) (vs.map some ++ List.replicate n none) σ' → ∀ j, S.bor = some j → σ'[j]? = some (some (vs.getD j .non)) := fun {σ'} z j hb => by
    have y := z j (by unfold pinned; rw [hb]; exact List.mem_cons_self)
    have hj : j < vs.length := by rw [hlen]; exact hl a j hb
    rw [y, List.getElem?_append_left (by rw [List.length_map]; exact hj), List.getElem?_map, List.getD_eq_getElem?_getD, List.getElem?_eq_getElem hj]
    rfl
  refine sm _ _ F h H _ (endK S a) g (env_start n co) (sem a hp) ⟨fun σ' H' x => ?_, fun σ' H' x => ?_, fun σ' H' x => ?_, fun v H' x => ?_, fun cls d σ' H' x => ?_⟩
  · obtain ⟨ρ', F', h', g', s', e', x', o⟩ := x
    obtain ⟨l1, l2, el, dl, c0⟩ := aft_ok (S := S) (vs := vs) e' (ag x')
    subst el
    obtain ⟨gd, sd⟩ := g'.drop
    refine ok _ _ o .non F' l1 emp H' (by rw [jn_emp]; exact gd) Dis.empr ?_ c0 ⟨rfl, rfl⟩
    rw [jn_emp]
    exact s'.trans g'.d sd
  · obtain ⟨_, _, _, _, _, _, _, z⟩ := x
    exact z.elim
  · obtain ⟨_, _, _, _, _, _, _, z⟩ := x
    exact z.elim
  · obtain ⟨c, ρ', σ', F', h1, h2, g', d', s', e', rc, x', o⟩ := x
    obtain ⟨l1, l2, el, dl, c0⟩ := aft_ok (S := S) (vs := vs) e' (ag x')
    subst el
    rw [jn_swap d'.r'] at g' s'
    obtain ⟨gd, sd⟩ := g'.drop
    exact ok _ _ o v F' l1 h2 H' gd d'.l' (s'.trans g'.d sd) c0 rc
  · obtain ⟨y, ρ', F', h1, h2, g', d', s', e', rc, x', o⟩ := x
    obtain ⟨l1, l2, el, dl, c0⟩ := aft_ok (S := S) (vs := vs) e' (ag x')
    subst el
    rw [jn_swap d'.r'] at g' s'
    obtain ⟨gd, sd⟩ := g'.drop
    exact ex _ _ o cls d F' l1 h2 H' gd d'.l' (s'.trans g'.d sd) c0 rc
end
/-- a def by its body, whatever is told of its exceptions -/
theorem fun_okN {P : Program} {w : World} {K : PySem.W.Frag} {mg : Str → Option Value} {base : Heap} {Z : CXT} {x qual : Str} {st : Stmt} {g : Addr} {fd : FuncData} {N qs : List Str} {n : Nat} {S : Sp} (F : Fun K x qual st g fd) (sc : FnScope N qs (defScope st))
    (ln : ∀ us H Q E, S us H Q E → us.length = qs.length) (bd : ∀ (cdv : Value) (A : Around) (outer : List PySem.Env) (s : Shared) (H : Hp) (us : List V) (Q : VK) (E : XK), Room n (A.deeper (PyProof.Rows.envOfC qual (defScope st) s.heap.objs.size g cdv)) → S us H Q E →
      ∃ t, PSs (cxOf Z P w K mg base N qual (defScope st) g cdv A outer s H E) (defBody st) t ∧ t { nx := fun _ H' => Q .non H', rt := Q } (L2.start N us) H) : FnOk P w K mg base Z (n + 1) g fd qs S := by
  obtain ⟨_, _, _, _, _, _, cdv, _, _, rfl, l, c⟩ := F.ex
  exact fn_of l c sc ln fun A outer s H us Q E r z => bd cdv A outer s H us Q E r z
theorem passLN {X : Cx} : Passes (L2N.CX X.prog X.w) X E0 := fun _ _ _ _ _ _ _ h => by
  obtain ⟨_, _, _, _, _, _, _, _, _, _, _, _, z⟩ := h
  exact z.elim
theorem takesN {X : Cx} : L2N.Takes X (fun _ _ _ _ => False) := fun _ _ x => by
  obtain ⟨_, _, _, _, _, _, _, _, _, _, _, _, _, _, _, _, z⟩ := x
  exact z.elim
/-- THE RULE for a def -/
theorem okF {P : Program} {w : World} {K : PySem.W.Frag} {mg : Str → Option Value} {base : Heap} {T : Tabs} {S : FSpec} {x qual : Str} {st : Stmt} {f : Addr} {fd : FuncData} {N ps : List Str} {k : Nat} (F : Fun K x qual st f fd) (sc : FnScope N ps (defScope st)) (wS : WS)
    (hlen : ∀ a, (S.args a).length = ps.length) (hb : ∀ j, S.bor = some j → j < ps.length)
    (body : ∀ (cdv : Value) (A : Around) (outer : List PySem.Env) (s : Shared) (H : Hp) (E : XK), Room k (A.deeper (PyProof.Rows.envOfC qual (defScope st) s.heap.objs.size f cdv)) →
      SB T (WD E) (pinned S) (cxOf (L2N.CX P w) P w K mg base N qual (defScope st) f cdv A outer s H E) (defBody st) wS)
    (sem : ∀ a, S.pre a → wS (S.args a ++ List.replicate (N.length - ps.length) .un) (endK S a)) : FnOk P w K mg base (L2N.CX P w) (k + 1) f fd ps (spOf T S) := by
  have len : ∀ vs H Q E, spOf T S vs H Q E → vs.length = ps.length := fun vs H Q E ⟨a, _, _, _, _, co, _⟩ => by rw [co.length]; exact hlen a
  refine fun_okN F sc len (fun cdv A outer s H vs Q E hr hsp => ?_)
  obtain ⟨t, h1, h2⟩ := (body cdv A outer s H E hr).ex
  refine ⟨t, h1, ?_⟩
  unfold L2.start
  rw [len _ _ _ _ hsp]
  exact body_ok (st := []) h2 (fun a j hb' => by rw [hlen a]; exact hb j hb') sem hsp
/-- a def of the text as the top has left it -/
def Df (K : PySem.W.Frag) (mg : Str → Option Value) (x : Str) (st : Stmt) (ps : List Str) : Prop := ∃ f fd, Fun K x x st f fd ∧ mg x = some (.ref f) ∧ Binds K fd ps []
/-- .. that keeps S -/
def Okd (P : Program) (w : World) (K : PySem.W.Frag) (mg : Str → Option Value) (base : Heap) (T : Tabs) (n : Nat) (x : Str) (S : FSpec) : Prop :=
  ∃ f fd ps, FnOk P w K mg base (L2N.CX P w) n f fd ps (spOf T S) ∧ mg x = some (.ref f) ∧ PySem.W.keepIn K (.ref f) = true ∧ Binds K fd ps []
section
variable {P : Program} {w : World} {K : PySem.W.Frag} {mg : Str → Option Value} {base : Heap} {T : Tabs} {S : FSpec} {x : Str} {st : Stmt} {N ps : List Str} {k n : Nat} {A : Around}
theorem Okd.fn (o : Okd P w K mg base T n x S) (hr : Room k A) (h : n ≤ k) : FnR P w K mg base A T x S := let ⟨f, fd, ps, a, b, c, d⟩ := o; ⟨n, f, fd, ps, a, hr.mono h, b, c, d⟩
theorem Df.ok (d : Df K mg x st ps) (sc : FnScope N ps (defScope st)) (wS : WS)
    (hlen : ∀ a, (S.args a).length = ps.length) (hb : ∀ j, S.bor = some j → j < ps.length)
    (sem : ∀ a, S.pre a → wS (S.args a ++ List.replicate (N.length - ps.length) .un) (endK S a))
    (body : ∀ (f : Addr) (cdv : Value) (A : Around) (outer : List PySem.Env) (s : Shared) (H : Hp) (E : XK), Room k (A.deeper (PyProof.Rows.envOfC x (defScope st) s.heap.objs.size f cdv)) →
      SB T (WD E) (pinned S) (cxOf (L2N.CX P w) P w K mg base N x (defScope st) f cdv A outer s H E) (defBody st) wS) : Okd P w K mg base T (k + 1) x S := by
  obtain ⟨f, fd, F, hm, hbi⟩ := d
  exact ⟨f, fd, ps, okF F sc wS hlen hb (body f) sem, hm, F.kp, hbi⟩
end
/-- the built-in names are not bound anew -/
structure Bi (mg : Str → Option Value) : Prop where
  len : mg "len" = none
  range : mg "range" = none
  list : mg "list" = none
  tuple : mg "tuple" = none
  sorted : mg "sorted" = none
  sum : mg "sum" = none
  int : mg "int" = none
  str : mg "str" = none
  max : mg "max" = none
  min : mg "min" = none
  set : mg "set" = none
  dict : mg "dict" = none
  isinstance : mg "isinstance" = none
  bool : mg "bool" = none
  VE : mg "ValueError" = none
end CL

/-! # CL: objects -/
namespace CL
open PySem L2
/-- what the text's class c must have -/
structure ClsOk (T : Tabs) (c : Nat) : Prop where
  cl : Cls T.K (T.cls c)
  no : ∀ f ∈ fldN c, NoAttr T.K (T.cls c) f
def fget {α : Type} (c : Nat) (f : Str) (ds : List α) : Option α := ((fldN c).zip ds).lookup f
theorem zip_lookup {α β : Type} {R : α → β → Prop} {f : Str} : ∀ {ns : List Str} {ds : List α} {xs : List β}, ds.length = xs.length → (∀ (i : Nat) d, ds[i]? = some d → ∃ x, xs[i]? = some x ∧ R d x) → ∀ {d : α}, (ns.zip ds).lookup f = some d → ∃ x, (ns.zip xs).lookup f = some x ∧ R d x
  | [], _, _, _, _, _, e => by simp at e
  | _ :: _, [], _, _, _, _, e => by simp at e
  | n :: ns, d :: ds, [], hl, _, _, _ => by cases hl
  | n :: ns, d :: ds, x :: xs, hl, hr, d', e => by
    simp only [List.zip_cons_cons, List.lookup_cons] at e ⊢
    cases q : f == n with
    | true =>
      rw [q] at e
      cases e
      obtain ⟨y, ey, ry⟩ := hr 0 d rfl
      cases ey
      exact ⟨x, rfl, ry⟩
    | false =>
      rw [q] at e
      exact zip_lookup (ns := ns) (by simpa using hl) (fun i d0 h0 => by obtain ⟨y, ey, ry⟩ := hr (i + 1) d0 (by simpa using h0); exact ⟨y, by simpa using ey, ry⟩) e
theorem zip_mem {α : Type} {f : Str} {d : α} : ∀ {ns : List Str} {ds : List α}, (ns.zip ds).lookup f = some d → f ∈ ns
  | [], _, e => by simp at e
  | _ :: _, [], e => by simp at e
  | n :: ns, d0 :: ds, e => by
    simp only [List.zip_cons_cons, List.lookup_cons] at e
    cases q : f == n with
    | true => rw [eq_of_beq q]; exact List.mem_cons_self
    | false => rw [q] at e; exact List.mem_cons_of_mem _ (zip_mem e)
theorem zip_none {α : Type} {f : Str} {ns : List Str} {ds : List α} (h : ns.contains f = false) : (ns.zip ds).lookup f = none := by
  cases q : (ns.zip ds).lookup f with
  | none => rfl
  | some d =>
    have z := zip_mem q
    rw [← List.contains_iff_mem] at z
    rw [h] at z
    cases z
section
variable {T : Tabs} {W : WX} {X : Cx} {P : List Nat} {ρ ρ' : Env} {σ σ' : L2.St} {F F' h h' h1 h2 ha he H H' H'' : Hp} {E : Ends} {k : Ks} {wa wb wc : WE} {S : FSpec} {kc : Nat}
/-! ### e.f -/
def wFld (kc : Nat) (f : Str) (w : WE) : WE := fun ρ K Z => w ρ (fun c ρ1 => match c with
  | .fz (.obj k ds) => k = kc ∧ opt (fget kc f ds) fun d => K (.fz d) ρ1
  | .ali i => match ρ1[i]? with
    | some (.obj k cs) => k = kc ∧ opt (fget kc f cs) fun c' => (match c' with
      | .fz d => K (.fz d) ρ1
      | _ => False)
    | _ => False
  | _ => False) Z
theorem COs.get : ∀ {cs : List Cell} {xs : List V} {h : Hp} {i : Nat} {c : Cell}, COs T F cs xs h → cs[i]? = some c → ∃ x l1 l2, xs[i]? = some x ∧ Dis l1 l2 ∧ h = jn l1 l2 ∧ CO T F c x l1 ∧
    ∀ F' c' x' l1', Le F F' → Dis l1' l2 → CO T F' c' x' l1' → COs T F' (cs.set i c') (xs.set i x') (jn l1' l2)
  | [], _, _, _, _, _, e => by simp at e
  | _ :: _, _, _, 0, _, ⟨x, r, h1, h2, e, dd, z, a, b⟩, q => by
    subst e
    simp at q
    subst q
    exact ⟨x, h1, h2, rfl, dd, z, a, fun F' c' x' l1' l d' o => ⟨x', r, l1', h2, rfl, d', rfl, o, b.mono l⟩⟩
  | c0 :: cs, _, _, i + 1, _, ⟨x, r, h1, h2, e, dd, z, a, b⟩, q => by
    subst e
    obtain ⟨y, l1, l2, e1, d1, e2, a1, f⟩ := COs.get (i := i) b (by simpa using q)
    subst e2
    exact ⟨y, l1, jn h1 l2, by simpa using e1, Dis.both dd.l.symm d1, by rw [z, jn_left dd.l], a1, fun F' c' x' l1' l d' o => ⟨x, r.set i x', h1, jn l1' l2, rfl, Dis.both d'.l.symm dd.r, by rw [jn_left d'.l], a.mono l, f F' c' x' l1' l d'.r o⟩⟩
theorem zip_take {α : Type} : ∀ {ns : List Str} {ds : List α} {n : Nat}, ds.length ≤ n → (ns.take n).zip ds = ns.zip ds
  | [], _, _, _ => by simp
  | _ :: _, [], _, _ => by simp
  | _ :: _, _ :: _, 0, h => by simp at h
  | _ :: ns, _ :: ds, n + 1, h => by
    rw [List.take_succ_cons, List.zip_cons_cons, List.zip_cons_cons, zip_take (by simpa using h)]
theorem sem_fld {f : Str} {t : TE} (ok : ClsOk T kc) (a : SemE T W t wa) : SemE T W (tFld T.K t f) (wFld kc f wa) := fun ρ σ F h H Q K Z g e w hQ hZ => by
  refine a ρ σ F h H _ _ Z g e w (fun v H1 o => ?_) hZ
  obtain ⟨c, ρ1, F1, k1, k2, g1, d1, s1, e1, r1, w1⟩ := o
  revert w1
  split
  · rename_i kk ds
    rintro ⟨rfl, w1⟩
    obtain ⟨d, ed, w1⟩ := opt_of w1
    rcases r1 with ⟨_, z, _⟩ | ⟨⟨p, dx, xs, rfl, hp, hl, rx⟩, rfl⟩
    · cases z
    obtain ⟨x, ex, rd⟩ := zip_lookup (R := Rep T F1) rx.length.symm (fun i d h => rx.get h) ed
    exact ⟨p, _, dx, _, x, rfl, g1.f _ _ hp, ok.cl, ok.no f (zip_mem ed), ex, hQ _ _ (.pre s1 g1 (.fzDrop g1 e1 rd w1))⟩
  · rename_i i
    split
    · rename_i kk cs q
      rintro ⟨rfl, w1⟩
      obtain ⟨c', ed, w1⟩ := opt_of w1
      revert w1
      split
      · rename_i d
        intro w1
        rcases r1 with ⟨j, z, hs, rfl⟩ | z
        · cases z
          obtain ⟨s, l1, l2, x1, x2, x3, x4, ff⟩ := e1.get q
          rw [hs] at x1
          cases x1
          rcases x4 with ⟨z, _⟩ | ⟨v', ev, p, dx, xs, h1, rfl, n1, n2, n3, n4, eh, co⟩
          · cases z
          cases ev
          obtain ⟨x, ex, l, rd⟩ := zip_lookup (R := fun c x => ∃ l, CO T F1 c x l) co.length.symm (fun i d h => by
            obtain ⟨x, l1, _, e, _, _, o, _⟩ := co.get h
            exact ⟨x, e, l1, o⟩) ed
          have hz : ((fldN kk).take cs.length).zip xs = (fldN kk).zip xs := zip_take (by rw [co.length]; exact Nat.le_refl _)
          refine ⟨p, T.cls kk, dx, (fldN kk).zip xs, x, rfl, g1.o _ _ (jn_some ?_), ok.cl, ok.no f (zip_mem ed), ex, hQ _ _ (.pre s1 g1 (.fzDrop g1 e1 rd.1 w1))⟩
          rw [x3, eh, hz]
          exact jn_some (jn_some sg_at)
        · exact z.elim
      · exact fun w => w.elim
    · exact fun w => w.elim
  · exact fun w => w.elim
variable {a b o value e : Expr} {es : List Expr} {pos p : Pos} {wr : WA}
theorem se_fld {f : Str} (hk : X.K = T.K) (ok : ClsOk T kc) (ha : SE T W X o wa) (hb : attributeBase o f X.env (eval o X.env) = eval o X.env := by rfl) : SE T W X (.Attribute o f pos) (wFld kc f wa) := let ⟨_, a1, a2⟩ := ha.ex
  ⟨⟨_, pe_fld a1 hb, by rw [hk]; exact sem_fld ok a2⟩⟩
/-! ### a method of a frozen object, that raises nothing -/
def FnRM (P : Program) (w : World) (K : PySem.W.Frag) (mg : Str → Option Value) (base : Heap) (A : Around) (T : Tabs) (kc : Nat) (m : Str) (S : FSpec) : Prop :=
  ∃ k f fd ps, FnOk P w K mg base (L2N.CX P w) k f fd ps (spOf T S) ∧ Room k A ∧ Meth K (T.cls kc) m f ∧ Binds K fd ps []
def wMethV (kc : Nat) (S : FSpec) (we : WE) (wr : WA) : WE := fun ρ K Z => we ρ (fun c ρ1 => toD ρ1 c fun d ρ2 => match d with
  | .obj k ds => k = kc ∧ wr ρ2 (fun cs ρ3 => toDs ρ3 cs fun es ρ4 => ∃ a, S.args a = .fz (.obj kc ds) :: es.map .fz ∧ S.pre a ∧ ∀ o, S.out a o → match o with
    | .ok r _ => K r ρ4
    | .ex _ _ => False) Z
  | _ => False) Z
theorem sem_methV {m : Str} {t : TE} {tr : TA} (hm : (fldN kc).contains m = false) (a : SemE T W t wa) (b : SemA T W tr wr) : SemE T W (tMeth (T.cls kc) m (spOf T S) [] E0 t tr) (wMethV kc S wa wr) := fun ρ σ F h H Q K Z g e w hQ hZ => by
  refine a ρ σ F h H _ _ Z g e w (fun v H1 o => ?_) hZ
  obtain ⟨c, ρ1, F1, k1, k2, g1, d1, s1, e1, r1, w1⟩ := o
  obtain ⟨d, ρ2, F2, he2, g2, s2, e2, r2, w2⟩ := toD_run g1 d1 e1 r1 w1
  have s12 := s1.trans g1.d s2
  cases d with
  | obj kk ds =>
    obtain ⟨rfl, w2⟩ := w2
    obtain ⟨p, dx, xs, rfl, hp, hl, rx⟩ := id r2
    refine ⟨p, dx, _, rfl, g2.f _ _ hp, zip_none hm, b ρ2 σ F2 he2 H1 _ _ Z g2 e2 w2 (fun vs H3 o => ?_) (fun cls d H3 o => hZ cls d H3 (.pre s12 g2 o))⟩
    obtain ⟨cs, ρ3, F3, l1, l2, g3, d3, s3, e3, r3, w3⟩ := o
    obtain ⟨es, ρ4, F4, he4, g4, s4, e4, r4, x, ea, hpre, w4⟩ := toDs_run g3 d3 e3 r3 w3
    have s14 := (s12.trans g2.d s3).trans g3.d s4
    have g4' : Good T F4 (jn emp he4) H3 := by rw [emp_jn]; exact g4
    rw [List.append_nil]
    refine ⟨x, F4, emp, good_emp g4, hpre, ?_, fun r c0 eo v F' h1 h2 H' g5 d5 s5 _ rv => ?_, fun y c0 eo cls d F' h1 h2 H' g5 d5 s5 _ rv => ?_⟩
    · rw [ea]
      exact ⟨_, vs, emp, emp, rfl, Dis.empr, by rw [jn_emp], ⟨r2.mono (s3.le.trans s4.le), rfl⟩, cos_fz r4⟩
    · replace w4 := w4 _ eo
      obtain ⟨g6, s6, d6⟩ := frame g4' Dis.empl g5 s5
      rw [emp_jn] at s6
      have e6 : jn (jn h1 h2) he4 = jn (jn he4 h2) h1 := by rw [jn_comm d6, jn_comm d5, jn_assoc]
      rw [e6] at g6 s6
      obtain ⟨g7, s7⟩ := g6.drop
      exact hQ _ _ ⟨r, ρ4, F', he4, h2, g7, d6.r'.symm, s14.trans g4.d (s6.trans g6.d s7), e4.mono s5.le, .inr rv, w4⟩
    · replace w4 := w4 _ eo
      exact w4.elim
  | _ => exact w2.elim
theorem se_methV {m : Str} {apos : Pos} {pl : Sem Bool} (ok : ClsOk T kc) (hk : X.K = T.K) (f : FnRM X.prog X.w X.K X.mg X.base X.A T kc m S) (ho : SE T W X o wa) (ha : SA T W X (e :: es) wr) (hm : (fldN kc).contains m = false := by decide +kernel)
    (hs : starEach (e :: es) X.env = (false, eval e X.env) :: starEach es X.env := by rfl) (hpl : (backTo pos (starEach es X.env)).any (·.1) = false := by rfl)
    (ht : eval (.Call (.Attribute o m apos) (e :: es) [] pos) X.env = (do
      let ov ← eval o X.env
      standAt apos.atName
      let (f, first) ← holding [ov] (getMethod ov m pl)
      callWith pos f first (backTo pos (starEach (e :: es) X.env)) (backToKw pos (keywordEach [] X.env))) := by rfl) : SE T W X (.Call (.Attribute o m apos) (e :: es) [] pos) (wMethV kc S wa wr) :=
  let ⟨_, _, _, _, F, hr, hme, hb⟩ := f; let ⟨_, a1, a2⟩ := ho.ex; let ⟨_, b1, b2⟩ := ha.ex
  ⟨⟨_, pe_meth (pl := pl) a1 (by rw [hk]; exact ok.cl) hme F hr hb .nil passLN b1 hs hpl ht, sem_methV hm a2 b2⟩⟩
theorem se_methV0 {m : Str} {apos : Pos} {pl : Sem Bool} (ok : ClsOk T kc) (hk : X.K = T.K) (f : FnRM X.prog X.w X.K X.mg X.base X.A T kc m S) (ho : SE T W X o wa) (hm : (fldN kc).contains m = false := by decide +kernel)
    (ht : eval (.Call (.Attribute o m apos) [] [] pos) X.env = (do
      let ov ← eval o X.env
      standAt apos.atName
      let (f, first) ← holding [ov] (getMethod ov m pl)
      callWith pos f first (backTo pos (starEach [] X.env)) (backToKw pos (keywordEach [] X.env))) := by rfl) : SE T W X (.Call (.Attribute o m apos) [] [] pos) (wMethV kc S wa wNil) :=
  let ⟨_, _, _, _, F, hr, hme, hb⟩ := f; let ⟨_, a1, a2⟩ := ho.ex
  ⟨⟨_, pe_meth0 (pl := pl) a1 (by rw [hk]; exact ok.cl) hme F hr hb .nil passLN ht, sem_methV hm a2 sem_nil⟩⟩
/-! ### C(..), where __init__ raises nothing -/
def FnRI (P : Program) (w : World) (K : PySem.W.Frag) (mg : Str → Option Value) (base : Heap) (A : Around) (T : Tabs) (kc : Nat) (x : Str) (S : FSpec) : Prop :=
  ∃ k f fd ps, FnOk P w K mg base (L2N.CX P w) k f fd ps (spOf T S) ∧ Room (k + 1) A ∧ Mk K (T.cls kc) f ∧ mg x = some (.ref (T.cls kc)) ∧ Binds K fd ps []
def wMake (kc : Nat) (S : FSpec) (wr : WA) : WE := fun ρ K Z => wr ρ (fun cs ρ1 => toDs ρ1 cs fun ds ρ2 => ∃ a, S.args a = .obj kc [] :: ds.map .fz ∧ S.pre a ∧ ∀ o, S.out a o → match o with
  | .ok r c0 => r = .fz .non ∧ K c0 ρ2
  | .ex _ _ => False) Z
theorem sem_make {tr : TA} (h0 : S.bi = 0) (b : SemA T W tr wr) (hna : ∀ a r c0, S.out a (.ok r c0) → ∀ i, c0 ≠ .ali i) : SemE T W (tMake (T.cls kc) (spOf T S) [] E0 tr) (wMake kc S wr) := fun ρ σ F h H Q K Z g e w hQ hZ => by
  refine b ρ σ F h H _ _ Z g e w (fun vs H1 o => ?_) hZ
  obtain ⟨cs, ρ1, F1, k1, k2, g1, d1, s1, e1, r1, w1⟩ := o
  obtain ⟨ds, ρ2, F2, he2, g2, s2, e2, r2, a, ea, hp, w2⟩ := toDs_run g1 d1 e1 r1 w1
  have s12 := s1.trans g1.d s2
  intro x dx hx hdx hne
  rw [List.append_nil]
  obtain ⟨g3, s3, d3⟩ := g2.alloc (o := .own x) hdx (fun _ z => nomatch z)
  have hx' : upd H1 dx (.own x) x = none := by rw [upd_ne (fun z => hne z.symm)]; exact hx
  obtain ⟨g4, s4, d4⟩ := g3.alloc (p := x) (o := .ins (T.cls kc) dx []) hx' (fun _ z => nomatch z)
  have s14 := (s12.trans g2.d s3).trans g3.d s4
  -- the callee's part
  have eo : jn (jn he2 (sg dx (HO.own x))) (sg x (HO.ins (T.cls kc) dx [])) = jn (jn (sg x (HO.ins (T.cls kc) dx [])) (sg dx (HO.own x))) he2 := by
    rw [jn_comm d4, ← jn_assoc]
    exact jn_swap d3
  rw [eo] at g4 s14
  have dd : Dis (jn (sg x (HO.ins (T.cls kc) dx [])) (sg dx (HO.own x))) he2 := Dis.both' d4.symm.l d3.symm
  refine ⟨a, F2, jn (sg x (.ins (T.cls kc) dx [])) (sg dx (.own x)), g4.drop.1, hp, ?_, fun r c0 eo v F' h1 h2 H' g5 d5 s5 rc rv => ?_, fun y c0 eo cls d F' h1 h2 H' g5 d5 s5 rc rv => ?_⟩
  · rw [ea]
    refine ⟨_, vs, _, emp, rfl, Dis.empr, by rw [jn_emp], ⟨x, dx, [], emp, rfl, fun z => hne z.symm, rfl, rfl, Nat.zero_le _, ?_, rfl, rfl⟩, cos_fz r2⟩
    rw [jn_emp]
    simp
  · replace w2 := w2 _ eo
    obtain ⟨rfl, w2⟩ := w2
    rw [h0] at rc
    obtain ⟨rv1, rfl⟩ := rv
    obtain ⟨g6, s6, d6⟩ := frame g4 dd g5 s5
    rw [jn_emp] at g6 s6 d6
    rw [jn_comm d6] at g6 s6
    refine ⟨rv1, hQ _ _ ⟨c0, ρ2, F', he2, h1, g6, d6.symm, s14.trans g4.d s6, e2.mono s5.le, .inr rc, w2⟩⟩
  · replace w2 := w2 _ eo
    exact w2.elim
theorem se_make {x : Str} (f : FnRI X.prog X.w X.K X.mg X.base X.A T kc x S) (ha : SA T W X (e :: es) wr) (hna : ∀ a r c0, S.out a (.ok r c0) → ∀ i, c0 ≠ .ali i) (hg : Gl X x := by rfl) (hdb : (x == ("__debug__" : Str)) = false := by decide) (he : starEach (e :: es) X.env = (false, eval e X.env) :: starEach es X.env := by rfl) (hpl : (backTo pos (starEach es X.env)).any (·.1) = false := by rfl) (h0 : S.bi = 0 := by rfl) :
    SE T W X (.Call (.Name x p) (e :: es) [] pos) (wMake kc S wr) := let ⟨_, _, _, _, F, hr, M, hm, hb⟩ := f; let ⟨_, a1, a2⟩ := ha.ex
  ⟨⟨_, pe_make M F hr hg hm hb .nil passLN a1 hdb he hpl, sem_make h0 a2 hna⟩⟩
/-! ### o.f = e, o the object of slot i -/
theorem putF_new {f : Str} {v : V} : ∀ {ns : List Str} {xs : List V}, xs.length = ns.length → f ∉ ns → putF f v (ns.zip xs) = (ns ++ [f]).zip (xs ++ [v])
  | [], [], _, _ => rfl
  | [], _ :: _, h, _ => by cases h
  | _ :: _, [], h, _ => by cases h
  | n :: ns, x :: xs, h, hn => by
    have h1 : ¬ n = f := fun z => hn (by rw [z]; exact List.mem_cons_self)
    rw [List.zip_cons_cons]
    unfold putF
    rw [if_neg h1, putF_new (by simpa using h) (fun z => hn (List.mem_cons_of_mem _ z))]
    rfl
theorem putF_old {f : Str} {v : V} : ∀ {ns : List Str} {xs : List V} {j : Nat}, ns.Nodup → ns[j]? = some f → j < xs.length → putF f v (ns.zip xs) = ns.zip (xs.set j v)
  | [], _, _, _, h, _ => by simp at h
  | _ :: _, [], _, _, _, h => by simp at h
  | n :: ns, x :: xs, 0, _, h, _ => by
    simp at h
    subst h
    rw [List.zip_cons_cons]
    unfold putF
    rw [if_pos rfl]
    rfl
  | n :: ns, x :: xs, j + 1, hn, h, hj => by
    have hm : f ∈ ns := List.mem_of_getElem? (by simpa using h)
    have h1 : ¬ n = f := fun z => (List.nodup_cons.mp hn).1 (z ▸ hm)
    rw [List.zip_cons_cons]
    unfold putF
    rw [if_neg h1, putF_old (List.nodup_cons.mp hn).2 (by simpa using h) (by simpa using hj)]
    rfl
def wFSet (i kc j : Nat) (w : WE) : WS := fun ρ k => w ρ (fun c ρ1 => rest ρ1 c fun c' ρ2 => match ρ2[i]? with
  | some (.obj kk cs) => kk = kc ∧ ((j < cs.length ∧ k.nx (ρ2.set i (.obj kc (cs.set j c')))) ∨ (j = cs.length ∧ k.nx (ρ2.set i (.obj kc (cs ++ [c'])))))
  | _ => False) k.xc
theorem COs.app : ∀ {cs : List Cell} {xs : List V} {c : Cell} {v : V} {l1 l2 : Hp}, COs T F cs xs l1 → CO T F c v l2 → Dis l1 l2 → COs T F (cs ++ [c]) (xs ++ [v]) (jn l1 l2)
  | [], _, c, v, _, l2, ⟨e, z⟩, o, _ => by subst e; subst z; exact ⟨v, [], l2, emp, rfl, Dis.empr, by rw [emp_jn, jn_emp], o, rfl, rfl⟩
  | _ :: _, _, c, v, _, l2, ⟨x, r, h1, h2, e, dd, z, a, b⟩, o, d => by
    subst e
    subst z
    exact ⟨x, _, h1, jn h2 l2, rfl, Dis.both dd d.l', by rw [jn_assoc], a, b.app o d.r'⟩
theorem sem_fset {i j : Nat} {f : Str} {tv : TE} (ok : ClsOk T kc) (hj : (fldN kc)[j]? = some f) (hnd : (fldN kc).Nodup) (a : SemE T W tv wa) : SemS T W P (sFld T.K (tVar i) tv f) (wFSet i kc j wa) := fun ρ σ F h H E k g0 e w c => by
  refine a ρ σ F h H _ _ _ g0 e w (fun v H1 o => ?_) c.xe
  obtain ⟨c1, ρ1, F1, k1, k2, g1, d1, s1, e1, r1, w1⟩ := o
  obtain ⟨c2, ρ2, F2, m1, m2, g2, d2, s2, e2, r2, w2⟩ := rest_run g1 d1 e1 r1 w1
  have s12 := s1.trans g1.d s2
  revert w2
  split
  · rename_i kk cs q
    rintro ⟨rfl, w2⟩
    obtain ⟨s, l1, l2, x1, x2, x3, x4, ff⟩ := e2.get q
    rcases x4 with ⟨z, _⟩ | ⟨v', ev, p, dx, xs, h1, rfl, n1, n2, n3, n4, eh, co⟩
    · cases z
    subst ev
    have hat : H1 p = some (.ins (T.cls kk) dx (((fldN kk).take cs.length).zip xs)) := g2.o _ _ (jn_some (by rw [x3, eh]; exact jn_some (jn_some sg_at)))
    have len : (((fldN kk).take cs.length).zip xs).length < 1000 := by
      have : (((fldN kk).take cs.length).zip xs).length ≤ (fldN kk).length := by
        rw [List.length_zip, List.length_take]; omega
      have h2 : ∀ k, (fldN k).length ≤ 6 := fun k => by
        unfold fldN; split <;> simp
      have := h2 kk
      omega
    refine ⟨_, x1, p, T.cls kk, dx, _, rfl, hat, ok.cl, ok.no f (List.mem_of_getElem? hj), len, ?_⟩
    -- the heap apart
    subst x3
    subst eh
    have d3 : Dis (jn (sg p (HO.ins (T.cls kk) dx (((fldN kk).take cs.length).zip xs))) (jn (sg dx (.own p)) h1)) m2 := d2.l'
    have pm : m2 p = none := d3.l'.at
    have dm : m2 dx = none := d3.r'.l'.at
    have hm : Dis h1 m2 := d3.r'.r'
    have pl : l2 p = none := x2.l'.at
    have dl : l2 dx = none := x2.r'.l'.at
    have hl2 : Dis h1 l2 := x2.r'.r'
    have lm : Dis l2 m2 := d2.r'
    have e0 : jn (jn (jn (sg p (HO.ins (T.cls kk) dx (((fldN kk).take cs.length).zip xs))) (jn (sg dx (.own p)) h1)) l2) m2 = jn (sg p (HO.ins (T.cls kk) dx (((fldN kk).take cs.length).zip xs))) (jn (jn (jn (sg dx (.own p)) h1) m2) l2) := by
      rw [jn_assoc, jn_assoc, jn_comm lm, ← jn_assoc (b := m2)]
    rw [e0] at g2 s12
    have np : (jn (jn (jn (sg dx (HO.own p)) h1) m2) l2) p = none := jn_nn (jn_nn (jn_nn (sg_ne n1) n2) pm) pl
    have ndk : ((fldN kk).take cs.length).Nodup := hnd.sublist (List.take_sublist _ _)
    have lk : ((fldN kk).take cs.length).length = xs.length := by rw [List.length_take, co.length]; omega
    rcases w2 with ⟨hlt, w2⟩ | ⟨rfl, w2⟩
    · -- an attribute that stands
      obtain ⟨x, la, lb, q1, q2, q3, q4, gg⟩ := co.get (i := j) (c := cs[j]) (by simp [hlt])
      subst q3
      have hj' : ((fldN kk).take cs.length)[j]? = some f := by rw [List.getElem?_take_of_lt hlt]; exact hj
      rw [putF_old ndk hj' (by rw [co.length]; exact hlt)]
      obtain ⟨g3, s3⟩ := g2.write (o' := .ins (T.cls kk) dx (((fldN kk).take cs.length).zip (xs.set j v))) np (fun _ z => nomatch z)
      have dam : Dis la m2 := hm.l'
      have dbm : Dis lb m2 := hm.r'
      have dal : Dis la l2 := hl2.l'
      have e3 : jn (sg p (HO.ins (T.cls kk) dx (((fldN kk).take cs.length).zip (xs.set j v)))) (jn (jn (jn (sg dx (.own p)) (jn la lb)) m2) l2) =
          jn (jn (jn (sg p (HO.ins (T.cls kk) dx (((fldN kk).take cs.length).zip (xs.set j v)))) (jn (sg dx (.own p)) (jn m2 lb))) l2) la := by
        have y1 : jn (jn (sg dx (HO.own p)) (jn la lb)) m2 = jn (jn (sg dx (.own p)) (jn m2 lb)) la := by
          have dA : Dis la (jn m2 lb) := Dis.both dam q2
          rw [jn_assoc (a := sg dx (HO.own p)) (b := jn la lb), jn_assoc (a := la), jn_comm dbm, jn_comm dA, ← jn_assoc]
        rw [y1, jn_swap dal, jn_assoc (b := jn (sg dx (HO.own p)) (jn m2 lb)), ← jn_assoc (b := jn (jn (sg dx (HO.own p)) (jn m2 lb)) l2)]
      rw [e3] at g3 s3
      obtain ⟨g4, s4⟩ := g3.drop
      have co' := gg F2 c2 v m2 Le.refl dbm.symm r2
      have z := ff F2 (.obj kk (cs.set j c2)) (some (.ref p)) (jn (sg p (.ins (T.cls kk) dx (((fldN kk).take cs.length).zip (xs.set j v)))) (jn (sg dx (.own p)) (jn m2 lb))) Le.refl
        (Dis.both' (Dis.single' pl) (Dis.both' (Dis.single' dl) (Dis.both' lm.symm hl2.r'))) (.inr ⟨_, rfl, p, dx, xs.set j v, jn m2 lb, rfl, n1, jn_nn pm (jn_nr n2), jn_nn dm (jn_nr n3), by simpa using n4, by rw [List.length_set], co'⟩)
      rw [set_self x1] at z
      exact c.nx _ _ ⟨_, F2, _, g4, (s12.trans g2.d s3).trans g3.d s4, z, .refl, w2⟩
    · -- a new one
      have hlt : cs.length < (fldN kk).length := (List.getElem?_eq_some_iff.mp hj).1
      have hnf : f ∉ (fldN kk).take cs.length := fun hmem => by
        obtain ⟨i', hi', e'⟩ := List.mem_iff_getElem.mp hmem
        rw [List.length_take] at hi'
        rw [List.getElem_take] at e'
        have := nodup_ix hnd (i := i') (j := cs.length) (x := f) (by rw [List.getElem?_eq_getElem (by omega), e']) hj
        omega
      have htk : (fldN kk).take cs.length ++ [f] = (fldN kk).take (cs ++ [c2]).length := by
        rw [List.length_append, List.length_singleton, List.take_succ, hj]
        rfl
      rw [putF_new lk.symm hnf, htk]
      obtain ⟨g3, s3⟩ := g2.write (o' := .ins (T.cls kk) dx (((fldN kk).take (cs ++ [c2]).length).zip (xs ++ [v]))) np (fun _ z => nomatch z)
      have e3 : jn (sg p (HO.ins (T.cls kk) dx (((fldN kk).take (cs ++ [c2]).length).zip (xs ++ [v])))) (jn (jn (jn (sg dx (.own p)) h1) m2) l2) =
          jn (jn (sg p (HO.ins (T.cls kk) dx (((fldN kk).take (cs ++ [c2]).length).zip (xs ++ [v])))) (jn (sg dx (.own p)) (jn h1 m2))) l2 := by
        rw [jn_assoc (a := sg dx (HO.own p)) (b := h1), ← jn_assoc (c := l2)]
      rw [e3] at g3 s3
      have co' := co.app r2 hm
      have z := ff F2 (.obj kk (cs ++ [c2])) (some (.ref p)) (jn (sg p (.ins (T.cls kk) dx (((fldN kk).take (cs ++ [c2]).length).zip (xs ++ [v])))) (jn (sg dx (.own p)) (jn h1 m2))) Le.refl
        (Dis.both' (Dis.single' pl) (Dis.both' (Dis.single' dl) (Dis.both' hl2 lm.symm))) (.inr ⟨_, rfl, p, dx, xs ++ [v], jn h1 m2, rfl, n1, jn_nn n2 pm, jn_nn n3 dm, by rw [List.length_append]; exact hlt, rfl, co'⟩)
      rw [set_self x1] at z
      exact c.nx _ _ ⟨_, F2, _, g3, s12.trans g2.d s3, z, .refl, w2⟩
  · exact fun w => w.elim
theorem ss_fset (i j : Nat) {x f : Str} {p1 p2 : Pos} (ok : ClsOk T kc) (hk : X.K = T.K) (ha : SE T W X value wa) (hj : (fldN kc)[j]? = some f := by rfl) (hnd : (fldN kc).Nodup := by decide +kernel) (hN : X.N[i]? = some x := by rfl) (hv : Vis X.env.scope x := by first | exact Or.inl rfl | exact Or.inr (Or.inl rfl) | exact Or.inr (Or.inr rfl)) (hd : (x == ("__debug__" : Str)) = false := by decide) (hcd : (x == ("__classdict__" : Str)) = false := by decide)
    (hs : swapsWith value (some (.Attribute (.Name x p1) f p2)) pos.line X.env = pure false := by rfl) : SS T W P X (.Assign [.Attribute (.Name x p1) f p2] value pos) (wFSet i kc j wa) := let ⟨_, a1, a2⟩ := ha.ex
  ⟨⟨_, ps_fld (pe_var hN hv hd hcd) a1 hs, by rw [hk]; exact sem_fset ok hj hnd a2⟩⟩
/-! ### a way that is never gone -/
def wNever : WS := fun _ _ => False
theorem ss_never {st : Stmt} : SS T W P X st wNever := ⟨⟨_, ps_never, fun _ _ _ _ _ _ _ _ _ w _ => w.elim⟩⟩
theorem sb_never {st : List Stmt} : SB T W P X st wNever := ⟨⟨_, pss_never, fun _ _ _ _ _ _ _ _ _ w _ => w.elim⟩⟩
end
/-- a method of the text -/
def Dm (K : PySem.W.Frag) (T : Tabs) (kc : Nat) (x qual : Str) (st : Stmt) (ps : List Str) : Prop := ∃ f fd, Fun K x qual st f fd ∧ Meth K (T.cls kc) x f ∧ Binds K fd ps []
/-- a class's __init__ -/
def Di (K : PySem.W.Frag) (mg : Str → Option Value) (T : Tabs) (kc : Nat) (cn qual : Str) (st : Stmt) (ps : List Str) : Prop := ∃ f fd, Fun K "__init__" qual st f fd ∧ Mk K (T.cls kc) f ∧ mg cn = some (.ref (T.cls kc)) ∧ Binds K fd ps []
def Okm (P : Program) (w : World) (K : PySem.W.Frag) (mg : Str → Option Value) (base : Heap) (T : Tabs) (n : Nat) (kc : Nat) (x : Str) (S : FSpec) : Prop :=
  ∃ f fd ps, FnOk P w K mg base (L2N.CX P w) n f fd ps (spOf T S) ∧ Meth K (T.cls kc) x f ∧ Binds K fd ps []
def Oki (P : Program) (w : World) (K : PySem.W.Frag) (mg : Str → Option Value) (base : Heap) (T : Tabs) (n : Nat) (kc : Nat) (cn : Str) (S : FSpec) : Prop :=
  ∃ f fd ps, FnOk P w K mg base (L2N.CX P w) n f fd ps (spOf T S) ∧ Mk K (T.cls kc) f ∧ mg cn = some (.ref (T.cls kc)) ∧ Binds K fd ps []
section
variable {P : Program} {w : World} {K : PySem.W.Frag} {mg : Str → Option Value} {base : Heap} {T : Tabs} {S : FSpec} {x cn qual : Str} {st : Stmt} {N ps : List Str} {k n kc : Nat} {A : Around}
theorem Okm.fn (o : Okm P w K mg base T n kc x S) (hr : Room k A) (h : n ≤ k) : FnRM P w K mg base A T kc x S := let ⟨f, fd, ps, a, b, c⟩ := o; ⟨n, f, fd, ps, a, hr.mono h, b, c⟩
theorem Oki.fn (o : Oki P w K mg base T n kc cn S) (hr : Room k A) (h : n + 1 ≤ k) : FnRI P w K mg base A T kc cn S := let ⟨f, fd, ps, a, b, c, d⟩ := o; ⟨n, f, fd, ps, a, hr.mono h, b, c, d⟩
theorem Dm.ok (d : Dm K T kc x qual st ps) (sc : FnScope N ps (defScope st)) (wS : WS) (hlen : ∀ a, (S.args a).length = ps.length) (hb : ∀ j, S.bor = some j → j < ps.length)
    (sem : ∀ a, S.pre a → wS (S.args a ++ List.replicate (N.length - ps.length) .un) (endK S a))
    (body : ∀ (f : Addr) (cdv : Value) (A : Around) (outer : List PySem.Env) (s : Shared) (H : Hp) (E : XK), Room k (A.deeper (PyProof.Rows.envOfC qual (defScope st) s.heap.objs.size f cdv)) →
      SB T (WD E) (pinned S) (cxOf (L2N.CX P w) P w K mg base N qual (defScope st) f cdv A outer s H E) (defBody st) wS) : Okm P w K mg base T (k + 1) kc x S := by
  obtain ⟨f, fd, F, hm, hbi⟩ := d
  exact ⟨f, fd, ps, okF F sc wS hlen hb (body f) sem, hm, hbi⟩
theorem Di.ok (d : Di K mg T kc cn qual st ps) (sc : FnScope N ps (defScope st)) (wS : WS) (hlen : ∀ a, (S.args a).length = ps.length) (hb : ∀ j, S.bor = some j → j < ps.length)
    (sem : ∀ a, S.pre a → wS (S.args a ++ List.replicate (N.length - ps.length) .un) (endK S a))
    (body : ∀ (f : Addr) (cdv : Value) (A : Around) (outer : List PySem.Env) (s : Shared) (H : Hp) (E : XK), Room k (A.deeper (PyProof.Rows.envOfC qual (defScope st) s.heap.objs.size f cdv)) →
      SB T (WD E) (pinned S) (cxOf (L2N.CX P w) P w K mg base N qual (defScope st) f cdv A outer s H E) (defBody st) wS) : Oki P w K mg base T (k + 1) kc cn S := by
  obtain ⟨f, fd, F, hm, hc, hbi⟩ := d
  exact ⟨f, fd, ps, okF F sc wS hlen hb (body f) sem, hm, hc, hbi⟩
end
end CL

/-! # CL: isinstance of built-in types; two targets at once -/
namespace CL
open PySem L2
inductive BT where
  | int | bool | str | list | tuple | dict
def BT.nm : BT → String
  | .int => "int"
  | .bool => "bool"
  | .str => "str"
  | .list => "list"
  | .tuple => "tuple"
  | .dict => "dict"
def isB : BT → D → Bool
  | .int, .int _ => true
  | .int, .bl _ => true
  | .bool, .bl _ => true
  | .str, .str _ => true
  | .list, .lst _ => true
  | .tuple, .tup _ => true
  | .dict, .dct _ _ => true
  | _, _ => false
def gIs (b : BT) : List D → Option D
  | [.obj _ _] => none
  | [.scr _] => none
  | [d] => some (.bl (isB b d))
  | _ => none
section
variable {T : Tabs} {W : WX} {X : Cx} {P : List Nat} {F H : Hp} {wa : WE}
theorem kit_cases (b : BT) : kitB "NoneType" b.nm = some false ∧ kitB "bool" b.nm = some (isB b (.bl true)) ∧ kitB "int" b.nm = some (isB b (.int 0)) ∧ kitB "str" b.nm = some (isB b (.str "")) ∧ kitB "tuple" b.nm = some (isB b (.tup [])) ∧ kitB "list" b.nm = some (isB b (.lst [])) ∧ kitB "dict" b.nm = some (isB b (.dct [] [])) := by
  cases b <;> exact ⟨by decide +kernel, by decide +kernel, by decide +kernel, by decide +kernel, by decide +kernel, by decide +kernel, by decide +kernel⟩
theorem SV.ty {K : PySem.W.Frag} {d : D} {v : V} {b : BT} {r : D} (l : Le F H) (a : SV T F H d v) (e : gIs b [d] = some r) : ∃ n, TyX K H v (.type n) ∧ kitB n b.nm = some (isB b d) ∧ r = .bl (isB b d) := by
  obtain ⟨k1, k2, k3, k4, k5, k6, k7⟩ := kit_cases b
  cases d with
  | non => cases e; cases a; exact ⟨_, .base .non, by rw [k1]; cases b <;> rfl, rfl⟩
  | bl x => cases e; cases a; exact ⟨_, .base (.bl x), by rw [k2]; cases b <;> rfl, rfl⟩
  | int x => cases e; cases a; exact ⟨_, .base (.int x), by rw [k3]; cases b <;> rfl, rfl⟩
  | str x => cases e; cases a; exact ⟨_, .base (.str x), by rw [k4]; cases b <;> rfl, rfl⟩
  | tup x => cases e; obtain ⟨p, xs, rfl, hp, rx⟩ := a; exact ⟨_, .base (.tup (l _ _ hp)), by rw [k5]; cases b <;> rfl, rfl⟩
  | lst x => cases e; obtain ⟨p, xs, rfl, hp, rx⟩ := a; exact ⟨_, .base (.lst hp), by rw [k6]; cases b <;> rfl, rfl⟩
  | dct x y => cases e; obtain ⟨p, xs, rfl, hp, hl, rx⟩ := a; exact ⟨_, .base (.dK hp), by rw [k7]; cases b <;> rfl, rfl⟩
  | obj _ _ => cases e
  | scr _ => cases e
theorem se_is (b : BT) {a : Expr} {x : Str} {p p2 pos : Pos} (hk : X.K = T.K) (hm : X.mg "isinstance" = none) (hmx : X.mg x = none) (ha : SE T W X a wa) (hv : bootBuiltins x = some (.type b.nm) := by decide +kernel) (hg : Gl X "isinstance" := by rfl) (hgx : Gl X x := by rfl) (hn : x ≠ "__name__" := by decide) (hd : (x == ("__debug__" : Str)) = false := by decide)
    (he : starEach [a, .Name x p2] X.env = (false, eval a X.env) :: starEach [.Name x p2] X.env := by rfl) (he2 : starEach [.Name x p2] X.env = (false, eval (.Name x p2) X.env) :: starEach [] X.env := by rfl) (hpl : (backTo pos (starEach [.Name x p2] X.env)).any (·.1) = false := by rfl) :
    SE T W X (.Call (.Name "isinstance" p) [a, .Name x p2] [] pos) (w1 (fS (gIs b)) wa) := let ⟨_, a1, a2⟩ := ha.ex
  ⟨⟨_, pe_callB call_isi hg hm (by decide +kernel) (pa_cons a1 (pa_cons (pe_bltn (v := .ty b.nm) hgx hmx hv rfl hn hd) pa_nil he2) he) (by decide) (by decide) he hpl,
    show SemE T W (tOpA (fun xs H Q => rIsi X.K (xs ++ [V.ty b.nm]) H Q) (tCons _ tNil)) _ from sem_op (r := fun xs H Q => rIsi X.K (xs ++ [V.ty b.nm]) H Q) (sem_cons a2 sem_nil) (op_fS fun vs ds F H Q d l r e k => by
      match ds, r, e with
      | [d0], r, e =>
        obtain ⟨y, rfl, ra⟩ := svs1 r rfl
        obtain ⟨n, ty, kt, rfl⟩ := SV.ty l ra e
        exact ⟨y, .ty b.nm, .type n, .type b.nm, isB b d0, rfl, .ty _, ty, kit_ty kt, k _ rfl⟩
      | [], r, e => cases e
      | _ :: _ :: _, r, e => simp [gIs] at e)⟩⟩
end
/-! ### data of ints -/
abbrev LI (ns : List Int) : D := .lst (ns.map D.int)
end CL

/-! # CL: sorted of a tuple of ints -/
namespace CLS
open PySem PyProof.Rows SrtO
section
variable {prog : Program} {w : World} {A : Around} {E : Value → Shared → Prop} {s : Shared}
theorem collectT {t : Addr} {us : List Value} {R : List Value → Shared → Prop} (ht : s.heap.IsTuple t us.toArray) (fits : us.length ≤ sizeLine)
    (k : R us { s with heap := (s.heap.push (seqObj "list" #[] 0)).update s.heap.objs.size (Obj.mapSeq (· ++ us.toArray)) }) : wpAny (model prog w) A (collect (.ref t)) R E s := by
  obtain ⟨ob, hob, cl, m, dat⟩ := id ht
  unfold collect
  refine wpAny_bind (wpAny_runValue (codeAny_builtin entry_proto_collect' ?_))
  show wpAny _ _ (do again (.builtin "list.__iadd__" ⟨[← newList [], .ref t], []⟩)) _ _ s
  refine wpAny_bind (wpAny_newList (wpAny_pure ⟨Code.quiet_builtin _ (by decide +kernel), codeAny_builtin entry_list_iadd' ?_⟩))
  show wpAny _ _ (Builtin.List.listExtendWith (.ref s.heap.objs.size) (.ref t) (.ref s.heap.objs.size)) _ _ { s with heap := s.heap.push (seqObj "list" #[] 0) }
  unfold Builtin.List.listExtendWith
  have hob' : (s.heap.push (seqObj "list" #[] 0)).get? t = some ob := Heap.get?_push_of_some _ hob
  refine wpAny_bind (wpAny_typeOf (T := "tuple") ⟨ob, hob', cl⟩ ?_)
  have isT : (Value.type "tuple" == Value.type "tuple") = true := by rfl
  rw [if_pos (by rw [isT]; simp)]
  refine wpAny_bind (listItems_at hob' dat ?_)
  refine wpAny_bind (listItems_at (xs := #[]) (n := 0) (Heap.get?_push_size _ rfl) rfl ?_)
  rw [if_neg (by simp)]
  refine wpAny_bind (listUpdate_at (xs := #[]) (n := 0) (Heap.get?_push_size _ rfl) rfl ?_ (Nat.zero_le _) (by show (#[] ++ us.toArray).size ≤ sizeLine + 1; simp only [Array.size_append, List.size_toArray, List.length_nil]; omega))
  refine wpAny_pure ?_
  show wpAny (model prog w) A (do
      let o ← load s.heap.objs.size
      match o.data with
      | .seq xs _ => pure xs.toList
      | _ => unsupported "internal:collect") R E { s with heap := (s.heap.push (seqObj "list" #[] 0)).update s.heap.objs.size (Obj.mapSeq (· ++ us.toArray)) }
  refine wpAny_bind (wpAny_load (get?_update_seq (Heap.get?_push_size _ rfl) _) ?_)
  show wpAny _ _ (pure ((#[] : Array Value) ++ us.toArray).toList) R E _
  rw [show ((#[] : Array Value) ++ us.toArray).toList = us by simp]
  exact wpAny_pure k
theorem sortedT {t : Addr} {us : List Value} {less : Value → Value → Bool} {R : Value → Shared → Prop} (O : Swo less) (ht : s.heap.IsTuple t us.toArray) (fits : us.length ≤ sizeLine)
    (hS : 2 ≤ us.length → ∀ (g : Heap) (a : Addr), g.get? a = some (seqObj "list" us.toArray 0) → (∀ b o, s.heap.get? b = some o → b ≠ a ∧ g.get? b = some o) → SortableO prog w A.in1.in1 { s with heap := g } a us less)
    (k : ∀ out : List Value, Srtd less out → Stb less out us → R (.ref (s.heap.objs.size + 1)) { s with heap := sortedAll s.heap us out.toArray }) : wpAny (model prog w) A (call (.builtin "sorted") [.ref t]) R E s := by
  refine Calls.call_function_entry kind_sorted plain_sorted entry_sorted (args_sorted1 _) ?_
  unfold Builtin.«sorted»
  refine wpAny_bind (m := checkCount "sorted" 1 1 _) (wpAny_pure ?_)
  refine wpAny_bind (collectT ht fits ?_)
  refine wpAny_bind (wpAny_newList ?_ fits)
  have size1 : ((s.heap.push (seqObj "list" #[] 0)).update s.heap.objs.size (Obj.mapSeq (· ++ us.toArray))).objs.size = s.heap.objs.size + 1 := by
    rw [Heap.size_update, size_push']
  have at1 : (((s.heap.push (seqObj "list" #[] 0)).update s.heap.objs.size (Obj.mapSeq (· ++ us.toArray))).push (seqObj "list" us.toArray 0)).get? (s.heap.objs.size + 1) = some (seqObj "list" us.toArray 0) := by
    rw [← size1]; exact Heap.get?_push_size _ rfl
  have old : ∀ b o, s.heap.get? b = some o → b ≠ s.heap.objs.size + 1 ∧ (((s.heap.push (seqObj "list" #[] 0)).update s.heap.objs.size (Obj.mapSeq (· ++ us.toArray))).push (seqObj "list" us.toArray 0)).get? b = some o := fun b o q => by
    have lt : b < s.heap.objs.size := Heap.lt_size q
    refine ⟨Nat.ne_of_lt (Nat.lt_succ_of_lt lt), Heap.get?_push_of_some _ ?_⟩
    rw [Heap.get?_update_ne _ _ _ _ (Nat.ne_of_lt lt)]
    exact Heap.get?_push_of_some _ q
  show wpAny _ _ _ _ _ { s with heap := ((s.heap.push (seqObj "list" #[] 0)).update s.heap.objs.size (Obj.mapSeq (· ++ us.toArray))).push (seqObj "list" us.toArray 0) }
  rw [size1]
  refine wpAny_bind (wpAny_holding (wpAny_call_entry slot_list_sort ⟨_, at1, rfl⟩ entry_list_sort (list_sort_ord O at1 fits (fun h2 => hS h2 _ _ at1 old) fun out hs hb => ⟨_, rfl, ?_⟩) (args_list_sort _)))
  exact wpAny_pure ⟨_, rfl, k out hs hb⟩
end
end CLS
namespace L2
open PySem PySem.Spec PyProof.Rows
/-- sorted(t), t a tuple of ints -/
def rSortedTI (K : PySem.W.Frag) : List V → Hp → VK → Prop := fun vs H Q => ∃ (a : Addr) (ns : List Int), vs = [V.ref a] ∧ SqT K H a (ns.map V.int) ∧
  ∀ (ms : List Int) (p : Addr), ms.Perm ns → ms.Pairwise (· ≤ ·) → H p = none → Q (.ref p) (upd H p (.lst (ms.map V.int)))
theorem cr_sortedTI {X : Cx} : CallR X (.builtin "sorted") (rSortedTI X.K) := by
  intro pins s σ H vs us Q I r h
  obtain ⟨a, ns, rfl, hs, q⟩ := h
  obtain ⟨its, rv, hl, hz⟩ := I.tuple hs
  rw [Vals.ref1 r]
  have hi := rv.ints
  refine CLS.sortedT SrtO.swo_int hl (by rw [← rv.length]; exact hz) (fun h2 g a' _ _ => SrtO.ints_sortable hi h2) fun out h1 h2 => ?_
  obtain ⟨k1, k2, k3⟩ := SrtO.ints_out hi h1 h2
  obtain ⟨ep, he'⟩ := PyProof.Rows.sortedAll_at s.heap its out.toArray
  have hlen : ((out.map SrtO.iv).map V.int).length ≤ sizeLine := by
    rw [List.length_map, k2.length_eq]
    rw [List.length_map] at hz
    exact hz
  exact ⟨.ref _, upd H (s.heap.objs.size + 1) (.lst ((out.map SrtO.iv).map V.int)), I.laid (t' := s.toks) (fun _ _ => PyProof.Rows.sortedAll_old) (Nat.le_succ _) ⟨hlen, out, ep, vals_of_ints k1, he'⟩, rfl, q _ _ k2 k3 (I.hok.fresh (Nat.le_succ _))⟩
end L2
namespace CL
open PySem L2
def gSorted : List D → Option (List D)
  | [.lst ds] => (asInts ds).map fun ns => (isrt ns).map D.int
  | [.tup ds] => (asInts ds).map fun ns => (isrt ns).map D.int
  | _ => none
section
variable {T : Tabs} {W : WX} {X : Cx} {wa : WE} {a : Expr} {p pos : Pos}
theorem se_sorted (hk : X.K = T.K) (hm : X.mg "sorted" = none) (ha : SE T W X a wa) (hg : Gl X "sorted" := by rfl) (he : starEach [a] X.env = (false, eval a X.env) :: starEach [] X.env := by rfl) (hpl : (backTo pos (starEach [] X.env)).any (·.1) = false := by rfl) : SE T W X (.Call (.Name "sorted" p) [a] [] pos) (w1 (fL gSorted) wa) :=
  se_callB (cr_sortedI.or cr_sortedTI) (op_fL fun vs ds F H Q d l r e k => by
    unfold gSorted at e
    split at e
    · rename_i es
      cases q : asInts es with
      | none => rw [q] at e; cases e
      | some ns =>
        rw [q] at e
        cases e
        obtain ⟨x, rfl, ⟨p, xs, rfl, hp, rx⟩⟩ := svs1 r rfl
        rw [rx.ofI q] at hp
        exact .inl ⟨p, ns, rfl, .of hp, fun ns' q' pm so hq => by rw [isrt_eq pm so]; exact k q' _ hq (Reps.ints _)⟩
    · rename_i es
      cases q : asInts es with
      | none => rw [q] at e; cases e
      | some ns =>
        rw [q] at e
        cases e
        obtain ⟨x, rfl, ⟨p, xs, rfl, hp, rx⟩⟩ := svs1 r rfl
        rw [rx.ofI q] at hp
        exact .inr ⟨p, ns, rfl, .of (l _ _ hp), fun ns' q' pm so hq => by rw [isrt_eq pm so]; exact k q' _ hq (Reps.ints _)⟩
    · cases e) hm (by decide +kernel) (sa_cons ha sa_nil he) hg (by decide) (by decide) he hpl
end
end CL

/-! # CL: the end of a law -/
namespace CL
open PySem PySem.Spec PyProof.Rows L2
theorem good_only {T : Tabs} (ht : T.tabs = []) {H : Hp} (hO : Only H) : Good T H emp H := by
  refine ⟨Le.refl, Le.ofEmp, Dis.empr, fun b ps => ⟨fun e => ?_, fun e => nomatch e⟩, fun p hp => ?_⟩
  · rcases hO b with z | ⟨o, xs, z⟩
    · rw [z] at e; cases e
    · rw [z] at e; cases e
  · rw [ht] at hp
    cases hp
def spLawK (n : Nat) (K : PySem.W.Frag) : Sp := fun vs H Q _ => ∃ (a : Addr) (ns : List Int), vs = [.ref a] ∧ ns.length ≤ n ∧ Only H ∧ SqL K H a (ns.map V.int) ∧ ∀ H', Q (.bl true) H'
theorem sp_law {T : Tabs} (ht : T.tabs = []) {S : FSpec} (mk : List Int → S.A) (h1 : ∀ ns, S.args (mk ns) = [.fz (.scr ns)]) {n : Nat} (h2 : ∀ ns : List Int, ns.length ≤ n → S.pre (mk ns)) (h3 : ∀ a o, S.out a o → o = .ok (.fz (.bl true)) .un) (vs : List V) (H : Hp) (Q : VK) (E : XK) (h : spLawK n T.K vs H Q E) : spOf T S vs H Q E := by
  obtain ⟨a, ns, rfl, hl, hO, hS, hQ⟩ := h
  refine ⟨mk ns, H, emp, good_only ht hO, h2 ns hl, ?_, fun c c0 e v F' l1 l2 H' g d s r1 r2 => ?_, fun x c0 e => ?_⟩
  · rw [h1]
    exact ⟨_, _, emp, emp, rfl, Dis.empr, by rw [jn_emp], ⟨⟨a, rfl, hS⟩, rfl⟩, rfl, rfl⟩
  · have e' := h3 _ _ e
    cases e'
    have z : v = .bl true := r2.1
    rw [z]
    exact hQ _
  · have e' := h3 _ _ e
    cases e'
theorem cx_false {P : Program} {w : World} {H : Hp} {s s' : Shared} {e : Value} (h : L2N.CX P w [] H s (fun _ _ _ => False) e s') : False := by
  obtain ⟨_, _, _, _, _, _, _, _, _, _, _, _, z⟩ := h
  exact z
theorem walk_law {l : PySem.W.OpenLaw} {q : Program} {loose : List Str} {XP : (Str → Option Value) → Heap → Prop} {YP : World → Heap → Prop} {d : DefRec} {K : Params → PySem.W.Frag} {k n : Nat} {x : Str} (hn : l.most = some n) (hn2 : n ≤ sizeLine) (hdf : d.params.defaults = []) (hr : Room k callerA)
    (hY : ∀ (w : World) (h : Heap), YP w h → (K w.params).In h)
    (F : ∀ (w : World) (mg : Str → Option Value) (fa : Addr) (h : Heap), (K w.params).In h → h.Ns mainGlobals mg → mg d.name = some (.ref fa) →
      ∃ fd : FuncData, (∀ (s : Shared) (u : Value), BindsTo s fd ⟨[u], []⟩ [(x, u)]) ∧ ∀ base : Heap, (K w.params).In base → base.Ns mainGlobals mg → FnOk l.prog w (K w.params) mg base (L2N.CX l.prog w) k fa fd [x] (spLawK n (K w.params))) :
    PySem.W.WalkO q loose XP YP l.row.toRowW d [] (fun f vs => PySem.call f vs) :=
  L2.walk_of (n := n) (k := k) (x := x) (CX := fun w => L2N.CX l.prog w) (sp := fun w => spLawK n (K w.params)) hn hn2 hdf hr hY F (fun _ _ a ns hl hO hS => ⟨a, ns, rfl, hl, hO, hS, fun _ => rfl⟩) fun _ _ _ _ _ z => cx_false z
theorem hu_le {A : Around} {k : Nat} (r : Room k A) {n : Nat} (h : n ≤ 100) : A.units + n < cLine := by
  have := r.un
  omega
end CL

/-! # CL: own errors: their making -/
namespace CL
open PySem PySem.Spec PyProof.Rows L2
/-- the base of the text's errors: its __init__ is ValueError's -/
structure LeOk (K : PySem.W.Frag) (mg : Str → Option Value) (C0 : Addr) : Prop where
  mgL : mg "LightError" = some (.ref C0)
  ga : PySem.W.specialIn K (.ref C0) "__getattribute__" = some (some (.builtin "type.__getattribute__"))
  rd : PySem.W.readsIn K C0 (.type "type") = true
  fc : PySem.W.findCls K (.ref C0) (.type "type") "__init__" = some (.val (.builtin "ValueError.__init__"))
section
variable {X : Cx} {e : Expr} {es : List Expr} {ta : TA} {p1 p2 pos : Pos} {C0 : Addr}
theorem pe_leinit {pl : Sem Bool} (T : LeOk X.K X.mg C0) (ha : PA X (e :: es) ta) (hg : Gl X "LightError" := by rfl)
    (hc : eval (.Call (.Attribute (.Name "LightError" p1) "__init__" p2) (e :: es) [] pos) X.env = (do { let ov ← eval (.Name "LightError" p1) X.env; standAt p2.atName; let (f, first) ← holding [ov] (getMethod ov "__init__" pl); callWith pos f first (backTo pos (starEach (e :: es) X.env)) (backToKw pos (keywordEach [] X.env)) }) := by rfl)
    (he : starEach (e :: es) X.env = (false, eval e X.env) :: starEach es X.env := by rfl) (hpl : (backTo pos (starEach es X.env)).any (·.1) = false := by rfl) :
    PE X (.Call (.Attribute (.Name "LightError" p1) "__init__" p2) (e :: es) [] pos) (tVeI X.K ta) := by
  refine ⟨fun pins s σ H Q I h => ?_⟩
  refine PySem.W.methodCall_KW (ld_glob I hg T.mgL ?_) hc
  refine PySem.W.method_cls I.kIn T.ga ?_
  refine PySem.W.cls_value I.kIn T.rd T.fc (by decide +kernel) ?_
  show wpAny _ _ (callWith pos (Value.builtin "ValueError.__init__") [] (backTo pos (starEach (e :: es) X.env)) []) _ _ _
  refine PyProof.Rows.callWith_method1 (thn (ha.run pos pins _ σ H _ (I.tok _) h) fun us s1 hh => ?_) he hpl
  obtain ⟨vs, H1, I1, r1, a, C, ws, ev, hl, O, ea, q⟩ := hh
  subst ev
  cases r1 with
  | @cons _ u0 _ ur ra rw' =>
    obtain rfl : u0 = Value.ref a := ra
    have hlen : ur.length ≤ sizeLine := by
      rw [← Paired.length rw', sizeLine_eq]
      omega
    exact oinit_ok O I1 ea hlen fun s' J => ⟨.non, H1, J, rfl, q⟩
end
/-! ### C(x, y): two fields, in their order; C(x): one -/
structure ErC (K : PySem.W.Frag) (C : Addr) (gs : List Str) : Prop where
  ox : OexC K C
  no : ∀ g ∈ gs, PySem.W.findIn K (.ref C) g = some none
def spI2 (C : Addr) (g1 g2 : Str) : Sp := fun vs H Q _ => ∃ a y1 y2, vs = [.ref a, y1, y2] ∧ H a = some (exo a C none) ∧ ∀ dx, H dx = none → Q .non (upd (upd (upd H dx (exd dx [(g1, y1)])) a (exo a C (some dx))) dx (exd dx [(g2, y2), (g1, y1)]))
def spI1 (C : Addr) (g1 : Str) : Sp := fun vs H Q _ => ∃ a y1, vs = [.ref a, y1] ∧ H a = some (exo a C none) ∧ ∀ dx, H dx = none → Q .non (upd (upd H dx (exd dx [(g1, y1)])) a (exo a C (some dx)))
def tI2 (K : PySem.W.Frag) (i : Nat) (g1 g2 : Str) : TS := tSeq (tDrop (tVeI K (tCons (tVar 0) (tCons (tVar i) tNil)))) (tSeq (tOst K g1 (tVar 0) (tVar 1)) (tOst K g2 (tVar 0) (tVar 2)))
def tI1 (K : PySem.W.Frag) (z : Str) (g1 : Str) : TS := tSeq (tDrop (tVeI K (tCons (tVar 0) (tCons (tC (.str z)) tNil)))) (tOst K g1 (tVar 0) (tVar 1))
theorem pure_I2 {K : PySem.W.Frag} {C : Addr} {g1 g2 : Str} {i : Nat} (hi : i = 1 ∨ i = 2) (T : ErC K C [g1, g2]) (vs : List V) (H : Hp) (Q : VK) (E : XK) (h : spI2 C g1 g2 vs H Q E) : tI2 K i g1 g2 { nx := fun _ H' => Q .non H', rt := Q } (vs.map some) H := by
  obtain ⟨a, y1, y2, rfl, ha, hq⟩ := h
  have go : ∀ y : V, (List.map some [V.ref a, y1, y2])[i]? = some (some y) → tI2 K i g1 g2 { nx := fun _ H' => Q .non H', rt := Q } (List.map some [V.ref a, y1, y2]) H := fun y hy => by
    refine ⟨_, rfl, y, hy, a, C, [y], rfl, by simp, T.ox, ha, _, rfl, _, rfl, a, C, rfl, T.ox, T.no g1 (by simp), .inl ⟨ha, fun dx n ne => ?_⟩⟩
    show tOst K g2 (tVar 0) (tVar 2) { nx := fun _ H' => Q .non H', rt := Q } _ _
    refine ⟨_, rfl, _, rfl, a, C, rfl, T.ox, T.no g2 (by simp), .inr ⟨dx, [(g1, y1)], upd_same, ?_, (by show 1 ≤ 900; decide), ?_⟩⟩
    · rw [upd_ne ne, upd_same]
    · exact hq dx n
  rcases hi with rfl | rfl
  · exact go y1 rfl
  · exact go y2 rfl
theorem pure_I1 {K : PySem.W.Frag} {C : Addr} {z g1 : Str} (T : ErC K C [g1]) (vs : List V) (H : Hp) (Q : VK) (E : XK) (h : spI1 C g1 vs H Q E) : tI1 K z g1 { nx := fun _ H' => Q .non H', rt := Q } (vs.map some) H := by
  obtain ⟨a, y1, rfl, ha, hq⟩ := h
  refine ⟨_, rfl, a, C, [.str z], rfl, by simp, T.ox, ha, _, rfl, _, rfl, a, C, rfl, T.ox, T.no g1 (by simp), .inl ⟨ha, fun dx n _ => ?_⟩⟩
  exact hq dx n
section
variable {X : Cx} {e : Expr} {es : List Expr} {ta : TA} {p pos : Pos} {x g1 g2 : Str} {C fI : Addr} {k : Nat} {fd : FuncData} {ps : List Str}
def tE2 (C : Addr) (g1 g2 : Str) (ta : TA) : L2.St → Hp → XK → Prop := fun σ H Q => ta σ H fun vs H1 => ∃ y1 y2, vs = [y1, y2] ∧ ∀ d, H1 d = none → Q (.ref C) (some d) (upd H1 d (.xd [(g2, y2), (g1, y1)]))
def tE1 (C : Addr) (g1 : Str) (ta : TA) : L2.St → Hp → XK → Prop := fun σ H Q => ta σ H fun vs H1 => ∃ y1, vs = [y1] ∧ ∀ d, H1 d = none → Q (.ref C) (some d) (upd H1 d (.xd [(g1, y1)]))
theorem del_upd2 {H : Hp} {a d : Addr} {o1 o2 o3 o o' : HO} (ha : H a = none) (hne : d ≠ a) : upd (del (upd (upd (upd (upd H a o1) d o2) a o3) d o) a) d o' = upd H d o' := by
  funext b
  by_cases hb : b = d
  · subst hb; rw [upd_same, upd_same]
  · rw [upd_ne hb, upd_ne hb]
    by_cases hc : b = a
    · subst hc; rw [del_same, ha]
    · rw [del_ne hc, upd_ne hb, upd_ne hc, upd_ne hb, upd_ne hc]
theorem del_upd1 {H : Hp} {a d : Addr} {o1 o2 o3 o' : HO} (ha : H a = none) (hne : d ≠ a) : upd (del (upd (upd (upd H a o1) d o2) a o3) a) d o' = upd H d o' := by
  funext b
  by_cases hb : b = d
  · subst hb; rw [upd_same, upd_same]
  · rw [upd_ne hb, upd_ne hb]
    by_cases hc : b = a
    · subst hc; rw [del_same, ha]
    · rw [del_ne hc, upd_ne hc, upd_ne hb, upd_ne hc]
end
/-- C(e, ..): made, its context None -/
theorem pmk_oexN {X : Cx} {Z : CXT} {z : Str} {D g : Addr} {n : Nat} {fd : FuncData} {qs : List Str} {S : Sp} {p pos : Pos} {e : Expr} {es : List Expr} {ta : TA} (O : OexC X.K D)
    (hI : PySem.W.findIn X.K (.ref D) "__init__" = some (some (.ref g))) (hT : PySem.W.typeIn X.K (.ref g) = some (.type "function")) (G : FnOk X.prog X.w X.K X.mg X.base Z n g fd qs S) (room : Room (n + 1) X.A) (bi : Binds X.K fd qs [])
    (pa : Passes Z X (fun _ _ _ => False)) (gl : Gl X z) (gm : X.mg z = some (.ref D)) (as : PA X (e :: es) ta) (nd : (z == ("__debug__" : Str)) = false := by decide) (st : starEach (e :: es) X.env = (false, eval e X.env) :: starEach es X.env := by rfl)
    (np : (backTo pos (starEach es X.env)).any (·.1) = false := by rfl) : L2N.PMk X (.Call (.Name z p) (e :: es) [] pos) (tMkO D S [] ta) := fun pins s σ H Q I t => by
  obtain ⟨_, _, _, _, _, _, _, _, _, _, _, _, _, _, _, look, bases⟩ := O.cls
  refine wpAny_Call_Name_kw (ld_glob I gl gm (PySem.W.callWith_K (h₀ := X.base) I.ok.mod.kin O.kC (thn (as.run pos pins s σ H _ I t) fun us s1 ⟨vs, H1, J, rv, _, go⟩ => ⟨J.kIn, ?_⟩) st np) nd)
  show wpAny _ _ (call (.ref D) us) _ _ _
  obtain ⟨m, gs, dr, tk, os⟩ := s1
  generalize hh' : ((m.push (PySem.W.kdv_tup us)).push (PySem.HandSPX.excO D m.objs.size)) = m'
  have le : m.objs.size ≤ m.objs.size + 1 := Nat.le_add_right _ 1
  have hq := go _ (J.hok.fresh le)
  rw [List.append_nil] at hq
  have grow : ∀ b o, m.get? b = some o → m'.get? b = some o := fun b o z => by rw [← hh']; exact Heap.get?_push_of_some _ (Heap.get?_push_of_some _ z)
  have at' : m'.get? (m.objs.size + 1) = some (PySem.HandSPX.excO D m.objs.size) := by rw [← hh']; heap_get
  have J2 := J.laid (t' := tk) (o := exo (m.objs.size + 1) D none) grow le (exo_ok at')
  have lv : (Value.ref (m.objs.size + 1) :: us).length = qs.length := by
    have := G.len _ _ _ _ hq
    rw [← this, List.length_cons, List.length_cons, Paired.length rv]
  have lu : us.length ≤ sizeLine := by
    rw [← Paired.length rv, sizeLine_eq]
    omega
  have bb := bi _ (Value.ref (m.objs.size + 1) :: us) J2.kIn (by rw [List.append_nil]; exact lv)
  rw [List.append_nil] at bb
  subst hh'
  refine wpAny_call (PySem.HandSPX.call_own F.excBase_ValueError (fun Y => PySem.HandSPX.refsVE_contains Y _ bases) (J.kIn _ _ look) (PySem.W.looks_findIn J.kIn hI) (fun self => PySem.W.bind_fn J.kIn self hT) lu
    (codeAny_mono (G.run _ X.stack _ _ ⟨_, []⟩ _ (V.ref (m.objs.size + 1) :: vs) _ (fun _ _ _ => False) (room.make D us []) (J2.env0.make D us []) bb (.cons rfl rv) hq) ?_))
  intro r s' y
  match r, y with
  | .error er, y => exact pa pins σ _ _ er s' J2 y
  | .ok (.ret u), y =>
    obtain ⟨v, H2, so, sb, un, hk, ru, rfl, d, fs, e1, e2, e3, q⟩ := y
    obtain ⟨m2, g2, d2, t2, o2⟩ := s'
    obtain ⟨t0, W0, J3, back, gone, made, free⟩ := mk_end0 (d2 := d2) (t2 := t2) J le grow un hk so sb e1 e2 e3
    exact ⟨ru, _, _, _, ⟨W0, g2, d2, t2, o2⟩, _, _, some d, rfl, J3, back, gone, made, ⟨rfl, rfl, fun vs hv => by cases hv; rfl⟩, rfl, rfl, free, rfl, sb, raises_own O.exC O.tyC, q⟩
  | .ok .next, y => exact False.elim y
  | .ok .brk, y => exact False.elim y
  | .ok .cont, y => exact False.elim y
/-- what the raise of C(..) asks: the class, its __init__ -/
def ErF2 (P : Program) (w : World) (K : PySem.W.Frag) (mg : Str → Option Value) (base : Heap) (A : Around) (T : Tabs) (c : Nat) (x g1 g2 : Str) : Prop :=
  ∃ k fI fd ps, ErC K (T.cls c) [g1, g2] ∧ PySem.W.findIn K (.ref (T.cls c)) "__init__" = some (some (.ref fI)) ∧ PySem.W.typeIn K (.ref fI) = some (.type "function") ∧ FnOk P w K mg base (L2N.CX P w) k fI fd ps (spI2 (T.cls c) g1 g2) ∧ Room (k + 1) A ∧ Binds K fd ps [] ∧ mg x = some (.ref (T.cls c))
def wRaise2 (c : Nat) (wr : WA) : WS := fun ρ k => wr ρ (fun cs ρ1 => toDs ρ1 cs fun ds ρ2 => match ds with
  | [d1, d2] => k.xc ⟨c, [d2, d1]⟩ ρ2
  | _ => False) k.xc
section
variable {T : Tabs} {W : WX} {X : Cx} {P : List Nat} {wr : WA} {c : Nat} {g1 g2 x : Str} {e : Expr} {es : List Expr} {p pos pos2 : Pos}
theorem sem_raise2 {ta : TA} (hx : xfldN c = [g2, g1]) (a : SemA T W ta wr) : SemS T W P (fun _ σ H => tMkO (T.cls c) (spI2 (T.cls c) g1 g2) [] ta σ H fun cls d H' => W cls d σ H') (wRaise2 c wr) := fun ρ σ F h H E k g en w cn => by
  refine a ρ σ F h H _ _ k.xc g en w (fun vs H1 o => ?_) cn.xe
  obtain ⟨cs, ρ1, F1, k1, k2, q1, d1, s1, e1, r1, w1⟩ := o
  obtain ⟨ds, ρ2, F2, he2, q2, s2, e2, r2, w2⟩ := toDs_run q1 d1 e1 r1 w1
  revert w2
  split
  · rename_i x1 x2
    intro w2
    obtain ⟨y1, _, rfl, ra, y2, _, rfl, rb, rfl⟩ := r2
    refine ⟨by simp, fun a ha => ⟨a, y1, y2, rfl, upd_same, fun dx hdx => ?_⟩⟩
    have ne : dx ≠ a := fun z => by rw [z, upd_same] at hdx; cases hdx
    have hn : H1 dx = none := by rw [upd_ne ne] at hdx; exact hdx
    refine ⟨rfl, dx, [(g2, y2), (g1, y1)], ?_, upd_same, hn, ?_⟩
    · rw [upd_ne ne.symm, upd_same]
    · rw [del_upd2 ha ne]
      obtain ⟨ga, gb, gc⟩ := q2.alloc (o := .xd [(g2, y2), (g1, y1)]) hn (fun _ z => nomatch z)
      refine cn.xc _ _ _ _ ⟨⟨c, [x2, x1]⟩, ρ2, F2, he2, _, ga, gc, (s1.trans q1.d s2).trans q2.d gb, e2, ⟨rfl, .inr ⟨dx, [y2, y1], rfl, ?_, ?_, ?_, y2, _, rfl, rb, y1, _, rfl, ra, rfl⟩⟩, .refl, w2⟩
      · rw [hx]; exact fun z => nomatch z
      · rw [hx]; rfl
      · rw [hx]; rfl
  · exact fun w => w.elim
theorem ss_raise2 (c : Nat) (hc : X.calm = true) (tk : L2N.Takes X W) (f : ErF2 X.prog X.w X.K X.mg X.base X.A T c x g1 g2) (ha : SA T W X (e :: es) wr) (hx : xfldN c = [g2, g1] := by rfl) (hg : Gl X x := by rfl)
    (hdb : (x == ("__debug__" : Str)) = false := by decide) (he : starEach (e :: es) X.env = (false, eval e X.env) :: starEach es X.env := by rfl) (hpl : (backTo pos (starEach es X.env)).any (·.1) = false := by rfl) :
    SS T W P X (.Raise (some (.Call (.Name x p) (e :: es) [] pos)) none pos2) (wRaise2 c wr) := let ⟨_, _, _, _, T1, iC, tI, F1, hr, hb, hm⟩ := f; let ⟨_, a1, a2⟩ := ha.ex
  ⟨⟨_, L2N.ps_raise hc tk (pmk_oexN T1.ox iC tI F1 hr hb (L2N.passes_call tk fun _ _ _ _ h => h.elim) hg hm a1 hdb he hpl), sem_raise2 hx a2⟩⟩
end
/-- one field -/
def ErF1 (P : Program) (w : World) (K : PySem.W.Frag) (mg : Str → Option Value) (base : Heap) (A : Around) (T : Tabs) (c : Nat) (x g1 : Str) : Prop :=
  ∃ k fI fd ps, ErC K (T.cls c) [g1] ∧ PySem.W.findIn K (.ref (T.cls c)) "__init__" = some (some (.ref fI)) ∧ PySem.W.typeIn K (.ref fI) = some (.type "function") ∧ FnOk P w K mg base (L2N.CX P w) k fI fd ps (spI1 (T.cls c) g1) ∧ Room (k + 1) A ∧ Binds K fd ps [] ∧ mg x = some (.ref (T.cls c))
def wRaise1 (c : Nat) (wr : WA) : WS := fun ρ k => wr ρ (fun cs ρ1 => toDs ρ1 cs fun ds ρ2 => match ds with
  | [d1] => k.xc ⟨c, [d1]⟩ ρ2
  | _ => False) k.xc
section
variable {T : Tabs} {W : WX} {X : Cx} {P : List Nat} {wr : WA} {c : Nat} {g1 g2 x : Str} {e : Expr} {es : List Expr} {p pos pos2 : Pos}
theorem sem_raise1 {ta : TA} (hx : xfldN c = [g1]) (a : SemA T W ta wr) : SemS T W P (fun _ σ H => tMkO (T.cls c) (spI1 (T.cls c) g1) [] ta σ H fun cls d H' => W cls d σ H') (wRaise1 c wr) := fun ρ σ F h H E k g en w cn => by
  refine a ρ σ F h H _ _ k.xc g en w (fun vs H1 o => ?_) cn.xe
  obtain ⟨cs, ρ1, F1, k1, k2, q1, d1, s1, e1, r1, w1⟩ := o
  obtain ⟨ds, ρ2, F2, he2, q2, s2, e2, r2, w2⟩ := toDs_run q1 d1 e1 r1 w1
  revert w2
  split
  · rename_i x1
    intro w2
    obtain ⟨y1, _, rfl, ra, rfl⟩ := r2
    refine ⟨by simp, fun a ha => ⟨a, y1, rfl, upd_same, fun dx hdx => ?_⟩⟩
    have ne : dx ≠ a := fun z => by rw [z, upd_same] at hdx; cases hdx
    have hn : H1 dx = none := by rw [upd_ne ne] at hdx; exact hdx
    refine ⟨rfl, dx, [(g1, y1)], upd_same, ?_, hn, ?_⟩
    · rw [upd_ne ne, upd_same]
    · rw [del_upd1 ha ne]
      obtain ⟨ga, gb, gc⟩ := q2.alloc (o := .xd [(g1, y1)]) hn (fun _ z => nomatch z)
      refine cn.xc _ _ _ _ ⟨⟨c, [x1]⟩, ρ2, F2, he2, _, ga, gc, (s1.trans q1.d s2).trans q2.d gb, e2, ⟨rfl, .inr ⟨dx, [y1], rfl, ?_, ?_, ?_, y1, _, rfl, ra, rfl⟩⟩, .refl, w2⟩
      · rw [hx]; exact fun z => nomatch z
      · rw [hx]; rfl
      · rw [hx]; rfl
  · exact fun w => w.elim
theorem ss_raise1 (c : Nat) (hc : X.calm = true) (tk : L2N.Takes X W) (f : ErF1 X.prog X.w X.K X.mg X.base X.A T c x g1) (ha : SA T W X (e :: es) wr) (hx : xfldN c = [g1] := by rfl) (hg : Gl X x := by rfl)
    (hdb : (x == ("__debug__" : Str)) = false := by decide) (he : starEach (e :: es) X.env = (false, eval e X.env) :: starEach es X.env := by rfl) (hpl : (backTo pos (starEach es X.env)).any (·.1) = false := by rfl) :
    SS T W P X (.Raise (some (.Call (.Name x p) (e :: es) [] pos)) none pos2) (wRaise1 c wr) := let ⟨_, _, _, _, T1, iC, tI, F1, hr, hb, hm⟩ := f; let ⟨_, a1, a2⟩ := ha.ex
  ⟨⟨_, L2N.ps_raise hc tk (pmk_oexN T1.ox iC tI F1 hr hb (L2N.passes_call tk fun _ _ _ _ h => h.elim) hg hm a1 hdb he hpl), sem_raise1 hx a2⟩⟩
end
/-- no own __init__: made with a text -/
structure ErF0 (K : PySem.W.Frag) (mg : Str → Option Value) (C : Addr) (x : Str) : Prop where
  q : PySem.W.excIn K C [.type "ValueError", .type "Exception", .type "BaseException", .type "object"] "ValueError.__new__" = true
  g : mg x = some (.ref C)
  k : PySem.W.keepIn K (.ref C) = true
  exC : PySem.W.subIn K (.ref C) (.type "BaseException") = some true
  tyC : PySem.W.typeIn K (.ref C) = some (.type "type")
def wRaise0 (c : Nat) : WS := fun ρ k => k.xc ⟨c, []⟩ ρ
section
variable {T : Tabs} {W : WX} {X : Cx} {P : List Nat} {c : Nat} {x m : Str} {j : Nat} {p p2 pos pos2 : Pos}
theorem sem_raise0 (hx : xfldN c = []) : SemS T W P (fun _ σ H => (fun (_ : L2.St) (H : Hp) (Q : XK) => Q (.ref (T.cls c)) none H) σ H fun cls d H' => W cls d σ H') (wRaise0 c) := fun ρ σ F h H E k g en w cn => by
  exact cn.xc _ _ _ _ ⟨⟨c, []⟩, ρ, F, h, emp, by rw [jn_emp]; exact g, Dis.empr, by rw [jn_emp]; exact .refl, en, ⟨rfl, .inl ⟨hx, rfl, rfl, rfl⟩⟩, .refl, w⟩
theorem ss_raise0 (c : Nat) (hc : X.calm = true) (tk : L2N.Takes X W) (f : ErF0 X.K X.mg (T.cls c) x) (hx : xfldN c = [] := by rfl) (hg : Gl X x := by rfl) (hdb : (x == ("__debug__" : Str)) = false := by decide) :
    SS T W P X (.Raise (some (.Call (.Name x p) [.Constant (.str m) j p2] [] pos)) none pos2) (wRaise0 c) :=
  ⟨⟨_, L2N.ps_raise hc tk (L2N.pmk_own PySem.F.excBase_ValueError f.q f.g f.k (raises_own f.exC f.tyC) hg hdb), sem_raise0 hx⟩⟩
end
end CL

/-! # CL: try: .. except C: .. -/
namespace CL
open PySem L2
/-- the reading that asks no more than w -/
def cS (T : Tabs) (W : WX) (P : List Nat) (w : WS) : TS := fun E σ H => ∃ ρ F h k, Good T F h H ∧ EnvO T F ρ σ h ∧ w ρ k ∧ Cont T W P σ F h H E k
section
variable {T : Tabs} {W : WX} {X : Cx} {P : List Nat} {wb ws : WS} {x : Str} {C : Value} {body suite : List Stmt} {b₀ : Stmt} {np pos pos' : Pos}
theorem SB.can {sts : List Stmt} {w : WS} (a : SB T W P X sts w) : PSs X sts (cS T W P w) := let ⟨_, a1, a2⟩ := a.ex
  ⟨fun pins s σ H D I ⟨ρ, F, h, k, g, e, ww, c⟩ => a1.run pins s σ H D I (a2 ρ σ F h H D k g e ww c)⟩
/-- m: which classes the clause takes -/
def tryX (m : Nat → Option Bool) (ws : WS) (k : Ks) : KX := fun x ρ' => match m x.c with
  | some true => ws ρ' { k with xc := fun _ _ => False }
  | some false => k.xc x ρ'
  | none => False
def wTryO (m : Nat → Option Bool) (wb ws : WS) : WS := fun ρ k => wb ρ { k with xc := tryX m ws k }
theorem sem_tryO {m : Nat → Option Bool} (hm : ∀ c b, m c = some b → PySem.W.exmOne T.K (.ref (T.cls c)) C = some b) :
    SemS T W P (fun D σ H => (fun W' => cS T W' P wb) (wMany T.K W D [(C, fun _ _ _ => cS T (fun _ _ _ _ => False) P ws)]) D σ H) (wTryO m wb ws) := fun ρ σ F h H E k g e w cn => by
  refine ⟨ρ, F, h, _, g, e, w, ⟨cn.nx, cn.bk, cn.ct, cn.rt, fun cls d σ' H' o => ?_⟩⟩
  obtain ⟨x, ρ', F', h1, h2, g1, d1, s1, e1, rx, ag, wx⟩ := o
  obtain ⟨rfl, rx'⟩ := id rx
  replace wx : tryX m ws k x ρ' := wx
  unfold tryX at wx
  cases q : m x.c with
  | none => rw [q] at wx; exact wx.elim
  | some b =>
    rw [q] at wx
    refine ⟨b, hm x.c b q, fun hb a _ => ?_, fun hb => ?_⟩
    · subst hb
      obtain ⟨gd, sd⟩ := g1.drop
      have cn' := cn.from (s1.trans g1.d sd) gd ag
      exact ⟨ρ', F', h1, _, gd, e1, wx, ⟨cn'.nx, cn'.bk, cn'.ct, cn'.rt, fun _ _ _ _ z => by obtain ⟨_, _, _, _, _, _, _, _, _, _, _, z⟩ := z; exact z⟩⟩
    · subst hb
      exact cn.xc _ _ _ _ ⟨x, ρ', F', h1, h2, g1, d1, s1, e1, rx, ag, wx⟩
theorem ss_tryO (m : Nat → Option Bool) (hm : ∀ c b, m c = some b → PySem.W.exmOne T.K (.ref (T.cls c)) C = some b) (hk : X.K = T.K) (hs : X.stack = X.env :: X.outer) (hf : X.env.frame = some X.env.locals) (hc : Names X x C) (tk : L2N.Takes X W)
    (hb : ∀ (W' : WX) (pn : List (Addr × Obj)) (xe : Value → Shared → Prop), L2N.Takes (X.tr pn xe) W' → PassesOwn (model X.prog X.w) X.A X.env xe → SB T W' P (X.tr pn xe) body wb)
    (hsu : ∀ (a : Addr) (oe : Obj) (pn : List (Addr × Obj)), SB T (fun _ _ _ _ => False) P (X.suite a ((a, oe) :: pn)) (b₀ :: suite) ws) :
    SS T W P X (.Try body [.ExceptHandler (some (.Name x np)) none (b₀ :: suite) pos'] [] [] pos) (wTryO m wb ws) :=
  ⟨⟨_, L2N.ps_try_many (tb := fun W' => cS T W' P wb) (Wout := W) hs hf tk (fun W' pn xe tk' hp => (hb W' pn xe tk' hp).can) (.cons (ts := fun _ _ _ => cS T (fun _ _ _ _ => False) P ws) hc (fun a oe cls d pn _ _ => (hsu a oe pn).can) .nil), by rw [hk]; exact sem_tryO hm⟩⟩
end
end CL

/-! # CL: the __init__ of own errors -/
namespace CL
open PySem L2
section
variable {P : Program} {w : World} {K : PySem.W.Frag} {mg : Str → Option Value} {base : Heap} {C f : Addr} {fd : FuncData} {qual g1 g2 s0 p1 p2 z : Str} {st : Stmt} {k i : Nat}
theorem okI2 (F : Fun K "__init__" qual st f fd) (sc : FnScope [s0, p1, p2] [s0, p1, p2] (defScope st)) (T : ErC K C [g1, g2]) (hi : i = 1 ∨ i = 2)
    (body : ∀ (cdv : Value) (A : Around) (outer : List PySem.Env) (s : Shared) (H : Hp) (E : XK), Room k (A.deeper (PyProof.Rows.envOfC qual (defScope st) s.heap.objs.size f cdv)) →
      PSs (cxOf (L2N.CX P w) P w K mg base [s0, p1, p2] qual (defScope st) f cdv A outer s H E) (defBody st) (tI2 K i g1 g2)) : FnOk P w K mg base (L2N.CX P w) (k + 1) f fd [s0, p1, p2] (spI2 C g1 g2) := by
  refine fun_okN F sc (fun vs H Q E h => by obtain ⟨_, _, _, rfl, _⟩ := h; rfl) (fun cdv A outer s H vs Q E hr h => ⟨_, body cdv A outer s H E hr, ?_⟩)
  have z := pure_I2 hi T vs H Q E h
  obtain ⟨_, _, _, rfl, _⟩ := h
  exact z
theorem okI1 (F : Fun K "__init__" qual st f fd) (sc : FnScope [s0, p1] [s0, p1] (defScope st)) (T : ErC K C [g1])
    (body : ∀ (cdv : Value) (A : Around) (outer : List PySem.Env) (s : Shared) (H : Hp) (E : XK), Room k (A.deeper (PyProof.Rows.envOfC qual (defScope st) s.heap.objs.size f cdv)) →
      PSs (cxOf (L2N.CX P w) P w K mg base [s0, p1] qual (defScope st) f cdv A outer s H E) (defBody st) (tI1 K z g1)) : FnOk P w K mg base (L2N.CX P w) (k + 1) f fd [s0, p1] (spI1 C g1) := by
  refine fun_okN F sc (fun vs H Q E h => by obtain ⟨_, _, rfl, _⟩ := h; rfl) (fun cdv A outer s H vs Q E hr h => ⟨_, body cdv A outer s H E hr, ?_⟩)
  have z := pure_I1 (z := z) T vs H Q E h
  obtain ⟨_, _, rfl, _⟩ := h
  exact z
/-- an error class whose __init__ keeps its promise -/
def Er2 (P : Program) (w : World) (K : PySem.W.Frag) (mg : Str → Option Value) (base : Heap) (T : Tabs) (n c : Nat) (x g1 g2 : Str) : Prop :=
  ∃ fI fd ps, ErC K (T.cls c) [g1, g2] ∧ PySem.W.findIn K (.ref (T.cls c)) "__init__" = some (some (.ref fI)) ∧ PySem.W.typeIn K (.ref fI) = some (.type "function") ∧ FnOk P w K mg base (L2N.CX P w) n fI fd ps (spI2 (T.cls c) g1 g2) ∧ Binds K fd ps [] ∧ mg x = some (.ref (T.cls c))
def Er1 (P : Program) (w : World) (K : PySem.W.Frag) (mg : Str → Option Value) (base : Heap) (T : Tabs) (n c : Nat) (x g1 : Str) : Prop :=
  ∃ fI fd ps, ErC K (T.cls c) [g1] ∧ PySem.W.findIn K (.ref (T.cls c)) "__init__" = some (some (.ref fI)) ∧ PySem.W.typeIn K (.ref fI) = some (.type "function") ∧ FnOk P w K mg base (L2N.CX P w) n fI fd ps (spI1 (T.cls c) g1) ∧ Binds K fd ps [] ∧ mg x = some (.ref (T.cls c))
theorem Er2.fn {T : Tabs} {n c : Nat} {x : Str} {A : Around} (e : Er2 P w K mg base T n c x g1 g2) (hr : Room k A) (h : n + 1 ≤ k) : ErF2 P w K mg base A T c x g1 g2 := let ⟨fI, fd, ps, a, b, c, d, e, f⟩ := e; ⟨n, fI, fd, ps, a, b, c, d, hr.mono h, e, f⟩
theorem Er1.fn {T : Tabs} {n c : Nat} {x : Str} {A : Around} (e : Er1 P w K mg base T n c x g1) (hr : Room k A) (h : n + 1 ≤ k) : ErF1 P w K mg base A T c x g1 := let ⟨fI, fd, ps, a, b, c, d, e, f⟩ := e; ⟨n, fI, fd, ps, a, b, c, d, hr.mono h, e, f⟩
end
end CL

/-! # CL: what is lent for a call; borrowed at another place; borrowed objects -/
namespace CL
open PySem L2
def OwnO : HO → Prop
  | .lst _ => True
  | .dK _ => True
  | .ins _ _ _ => True
  | .own _ => True
  | .xd _ => True
  | _ => False
def rem (F l : Hp) : Hp := fun p => if (l p).isSome = true then none else F p
mutual
def noL : D → Bool
  | .tup ds => noLs ds
  | .lst _ => false
  | .dct _ _ => false
  | .obj _ _ => false
  | .scr _ => false
  | .non => true
  | .bl _ => true
  | .int _ => true
  | .str _ => true
def noLs : List D → Bool
  | [] => true
  | d :: ds => noL d && noLs ds
end
mutual
def noLC : Cell → Bool
  | .un => true
  | .fz d => noL d
  | .lst ds => noLs ds
  | .dct _ ds => noLs ds
  | .obj _ cs => noLCs cs
  | .lsc cs => noLCs cs
  | .ali _ => false
  | .dfz _ _ => false
  | .exo _ _ _ _ => false
def noLCs : List Cell → Bool
  | [] => true
  | c :: cs => noLC c && noLCs cs
end
section
variable {T : Tabs} {W : WX} {X : Cx} {ρ ρ' : Env} {σ σ' : L2.St} {F F' h h' h1 h2 k1 k2 l ha he H H' H'' : Hp} {S : FSpec}
theorem own_sg {p : Addr} {o : HO} (h : OwnO o) : ∀ q u, sg p o q = some u → OwnO u := fun q u e => by obtain ⟨_, rfl⟩ := sg_some e; exact h
theorem own_jn {a b : Hp} (x : ∀ q u, a q = some u → OwnO u) (y : ∀ q u, b q = some u → OwnO u) : ∀ q u, jn a b q = some u → OwnO u := fun q u e => (jn_cases e).elim (x q u) (y q u)
theorem own_emp : ∀ q u, emp q = some u → OwnO u := fun _ _ e => nomatch e
mutual
theorem CO.own : ∀ {c : Cell} {v : V} {h : Hp}, CO T F c v h → ∀ p o, h p = some o → OwnO o
  | .un, _, _, e => by rw [show _ = emp from e]; exact own_emp
  | .fz _, _, _, ⟨_, e⟩ => by rw [e]; exact own_emp
  | .lst _, _, _, ⟨_, _, _, e, _⟩ => by rw [e]; exact own_sg trivial
  | .dct _ _, _, _, ⟨_, _, _, _, e, _⟩ => by rw [e]; exact own_sg trivial
  | .obj _ _, _, _, ⟨_, _, _, _, _, _, _, _, _, e, r⟩ => by rw [e]; exact own_jn (own_sg trivial) (own_jn (own_sg trivial) (COs.own r))
  | .lsc _, _, _, ⟨_, _, _, _, _, e, r⟩ => by rw [e]; exact own_jn (own_sg trivial) (COs.own r)
  | .ali _, _, _, z => z.elim
  | .dfz _ _, _, _, ⟨_, _, _, _, _, _, _, e⟩ => by rw [e]; exact own_emp
  | .exo _ _ _ _, _, _, ⟨_, .inl ⟨_, _, e⟩⟩ => by rw [e]; exact own_emp
  | .exo _ _ _ _, _, _, ⟨_, .inr ⟨_, _, _, e, _⟩⟩ => by rw [e]; exact own_sg trivial
theorem COs.own : ∀ {cs : List Cell} {vs : List V} {h : Hp}, COs T F cs vs h → ∀ p o, h p = some o → OwnO o
  | [], _, _, ⟨_, e⟩ => by rw [e]; exact own_emp
  | _ :: _, _, _, ⟨_, _, _, _, _, _, e, a, b⟩ => by rw [e]; exact own_jn (CO.own a) (COs.own b)
end
theorem SlotO.own {c : Cell} {s : Option V} (x : SlotO T F c s h) : ∀ p o, h p = some o → OwnO o := by
  rcases x with ⟨_, e⟩ | ⟨_, _, x⟩
  · rw [e]; exact own_emp
  · exact x.own
theorem EnvO.own : ∀ {ρ : Env} {σ : L2.St} {h : Hp}, EnvO T F ρ σ h → ∀ p o, h p = some o → OwnO o
  | [], _, _, ⟨_, e⟩ => by rw [e]; exact own_emp
  | _ :: _, _, _, ⟨_, _, _, _, _, _, e, a, b⟩ => by rw [e]; exact own_jn a.own (EnvO.own b)
theorem RO.own {c : Cell} {v : V} (x : RO T F σ c v h) : ∀ p o, h p = some o → OwnO o := by
  rcases x with ⟨_, _, _, e⟩ | x
  · rw [e]; exact own_emp
  · exact x.own
theorem ROs.own : ∀ {cs : List Cell} {vs : List V} {h : Hp}, ROs T F σ cs vs h → ∀ p o, h p = some o → OwnO o
  | [], _, _, ⟨_, e⟩ => by rw [e]; exact own_emp
  | _ :: _, _, _, ⟨_, _, _, _, _, _, e, a, b⟩ => by rw [e]; exact own_jn a.own (ROs.own b)
/-! what is given back -/
mutual
theorem Rep.unl (ho : ∀ p o, l p = some o → OwnO o) (hl : Le l F) : ∀ {d : D} {v : V}, noL d = true → Rep T F d v → Rep T (rem F l) d v
  | .non, _, _, r => r
  | .bl _, _, _, r => r
  | .int _, _, _, r => r
  | .str _, _, _, r => r
  | .tup ds, _, n, ⟨p, xs, e, s, r⟩ => by
    refine ⟨p, xs, e, ?_, Reps.unl ho hl (by simpa [noL] using n) r⟩
    unfold rem
    cases q : l p with
    | none => exact s
    | some o =>
      have z := hl _ _ q
      rw [s] at z
      cases z
      exact (ho _ _ q).elim
  | .lst _, _, n, _ => by cases n
  | .dct _ _, _, n, _ => by cases n
  | .obj _ _, _, n, _ => by cases n
  | .scr _, _, n, _ => by cases n
theorem Reps.unl (ho : ∀ p o, l p = some o → OwnO o) (hl : Le l F) : ∀ {ds : List D} {vs : List V}, noLs ds = true → Reps T F ds vs → Reps T (rem F l) ds vs
  | [], _, _, r => r
  | d :: ds, _, n, ⟨x, r, e, a, b⟩ => by
    simp only [noLs, Bool.and_eq_true] at n
    exact ⟨x, r, e, Rep.unl ho hl n.1 a, Reps.unl ho hl n.2 b⟩
end
mutual
theorem CO.unl (ho : ∀ p o, l p = some o → OwnO o) (hl : Le l F) : ∀ {c : Cell} {v : V} {h : Hp}, noLC c = true → CO T F c v h → CO T (rem F l) c v h
  | .un, _, _, _, r => r
  | .fz _, _, _, n, ⟨r, e⟩ => ⟨Rep.unl ho hl (by simpa [noLC] using n) r, e⟩
  | .lst _, _, _, n, ⟨p, xs, e, z, r⟩ => ⟨p, xs, e, z, Reps.unl ho hl (by simpa [noLC] using n) r⟩
  | .dct _ _, _, _, n, ⟨p, xs, e, k, z, r⟩ => ⟨p, xs, e, k, z, Reps.unl ho hl (by simpa [noLC] using n) r⟩
  | .obj _ _, _, _, n, ⟨p, dx, xs, h1, e, n1, n2, n3, n4, z, r⟩ => ⟨p, dx, xs, h1, e, n1, n2, n3, n4, z, COs.unl ho hl (by simpa [noLC] using n) r⟩
  | .lsc _, _, _, n, ⟨p, xs, h1, e, k, z, r⟩ => ⟨p, xs, h1, e, k, z, COs.unl ho hl (by simpa [noLC] using n) r⟩
  | .ali _, _, _, n, _ => by cases n
  | .dfz _ _, _, _, n, _ => by cases n
  | .exo _ _ _ _, _, _, n, _ => by cases n
theorem COs.unl (ho : ∀ p o, l p = some o → OwnO o) (hl : Le l F) : ∀ {cs : List Cell} {vs : List V} {h : Hp}, noLCs cs = true → COs T F cs vs h → COs T (rem F l) cs vs h
  | [], _, _, _, r => r
  | c :: cs, _, _, n, ⟨x, r, h1, h2, e, dd, z, a, b⟩ => by
    simp only [noLCs, Bool.and_eq_true] at n
    exact ⟨x, r, h1, h2, e, dd, z, CO.unl ho hl n.1 a, COs.unl ho hl n.2 b⟩
end
theorem unlend (ho : ∀ p o, jn k1 k2 p = some o → OwnO o) (g : Good T F (jn k1 k2) H) (g3 : Good T F' (jn h1 h2) H') (d3 : Dis h1 h2) (s3 : Step (jn F (jn k1 k2)) emp H F' (jn h1 h2) H') :
    Good T (rem F' (jn k1 k2)) (jn k1 h2) H' ∧ Dis k1 h2 ∧ Step F (jn k1 k2) H (rem F' (jn k1 k2)) (jn k1 h2) H' ∧ Le F (rem F' (jn k1 k2)) ∧ Le (jn k1 k2) F' := by
  have lF : Le (jn k1 k2) F' := (Le.right g.d).trans s3.le
  have FF : Le F F' := Le.left.trans s3.le
  have hs : ∀ {x o}, k1 x = some o → jn k1 k2 x = some o := fun e => jn_some e
  have rm : ∀ {x o}, rem F' (jn k1 k2) x = some o → F' x = some o := fun {x o} e => by
    unfold rem at e
    split at e
    · cases e
    · exact e
  have rn : ∀ {x}, jn k1 k2 x = none → rem F' (jn k1 k2) x = F' x := fun {x} e => by unfold rem; rw [e]; rfl
  have ry : ∀ {x o}, jn k1 k2 x = some o → rem F' (jn k1 k2) x = none := fun {x o} e => by unfold rem; rw [e]; rfl
  have rl : Le F (rem F' (jn k1 k2)) := fun x o e => by
    have : jn k1 k2 x = none := by
      rcases g.d x with z | z
      · rw [z] at e; cases e
      · exact z
    rw [rn this]
    exact FF _ _ e
  have dk : Dis k1 h2 := fun x => by
    cases e : k1 x with
    | none => exact .inl rfl
    | some o =>
      have z := lF _ _ (hs e)
      rcases g3.d x with y | y
      · rw [z] at y; cases y
      · exact .inr (jn_nr y)
  refine ⟨⟨fun x o e => g3.f _ _ (rm e), ?_, fun x => ?_, fun b ps => ⟨fun e => (g3.nt b ps).1 (rm e), fun e => ?_⟩, fun p hp => ?_⟩, dk, ⟨rl, fun b o e n => s3.fr b o e rfl, fun b f n z => ?_⟩, rl, lF⟩
  · exact Le.join (fun x o e => g3.f _ _ (lF _ _ (hs e))) ((Le.right d3).trans g3.o)
  · cases q : jn k1 k2 x with
    | some o => exact .inl (ry q)
    | none =>
      rcases g3.d x with y | y
      · exact .inl (by rw [rn q]; exact y)
      · exact .inr (jn_nn (jn_nl q) (jn_nr y))
  · rcases jn_cases e with e | e
    · exact (g.nt b ps).2 (hs e)
    · exact (g3.nt b ps).2 (jn_right d3 e)
  · obtain ⟨a, b, ps, c1, c2, c3⟩ := g3.tb p hp
    obtain ⟨a0, b0, _⟩ := g.tb p hp
    refine ⟨by rw [rn b0]; exact a, jn_nn (jn_nl b0) (jn_nr b), ps, c1, c2, fun pos cv e => ?_⟩
    obtain ⟨c, e1, e2⟩ := c3 pos cv e
    refine ⟨c, e1, ?_⟩
    cases q : jn k1 k2 c with
    | none => rw [rn q]; exact e2
    | some o =>
      have z := lF _ _ q
      rw [e2] at z
      cases z
      exact (ho _ _ q).elim
  · have lb : jn F (jn k1 k2) b = none := jn_nn f n
    refine s3.nw b lb rfl ?_
    rcases z with z | z
    · exact .inl (by rw [rn n] at z; exact z)
    · refine .inr fun y => z (jn_nn (jn_nl n) (jn_nr y))
theorem CO.shown {c : Cell} {v : V} {d : D} {G : Hp} (l : Le F G) (lh : Le h G) (x : CO T F c v h) (s : ∀ ρ, sv ρ c = some d) : Rep T G d v := by
  cases c with
  | fz d' => cases s []; exact x.1.mono l
  | lst ds =>
    cases s []
    obtain ⟨p, xs, e, z, r⟩ := x
    exact ⟨p, xs, e, lh _ _ (by rw [z]; exact sg_at), r.mono l⟩
  | dct ks ds =>
    cases s []
    obtain ⟨p, xs, e, n, z, r⟩ := x
    exact ⟨p, xs, e, lh _ _ (by rw [z]; exact sg_at), n, r.mono l⟩
  | un => cases s []
  | obj _ _ => cases s []
  | lsc _ => cases s []
  | dfz _ _ => cases s []
  | exo _ _ _ _ => cases s []
  | ali _ => exact x.elim
theorem RO.shown {c : Cell} {v : V} {d : D} {G : Hp} (l : Le F G) (le : Le he G) (lh : Le h G) (e : EnvO T F ρ σ he) (x : RO T F σ c v h) (s : CL.sv ρ c = some d) : Rep T G d v := by
  rcases x with ⟨i, ec, es, _⟩ | x
  · subst ec
    cases q : ρ[i]? with
    | none => simp [CL.sv, q] at s
    | some c =>
      obtain ⟨s1, k1, k2, e1, _, e2, a, _⟩ := e.get q
      rw [e1] at es
      cases es
      rcases a with ⟨z, _⟩ | ⟨v', ev, a⟩
      · subst z; simp [CL.sv, q] at s
      · cases ev
        refine CO.shown l (Le.trans (by rw [e2]; exact Le.left) le) a fun ρ' => ?_
        cases c <;> simp_all [CL.sv]
  · refine CO.shown l lh x fun ρ' => ?_
    cases c with
    | ali _ => exact x.elim
    | _ => exact s
theorem ROs.shown {G : Hp} (l : Le F G) (le : Le he G) (e : EnvO T F ρ σ he) : ∀ {cs : List Cell} {vs : List V} {h : Hp} {ds : List D}, Le h G → ROs T F σ cs vs h → CL.svs ρ cs = some ds → Reps T G ds vs
  | [], _, _, _, _, x, s => by cases s; exact x.1
  | c :: cs, _, _, ds, lh, ⟨x, r, k1, k2, ex, d1, z, a, b⟩, s => by
    cases q1 : CL.sv ρ c with
    | none => simp [CL.svs, q1] at s
    | some d =>
      cases q2 : CL.svs ρ cs with
      | none => simp [CL.svs, q1, q2] at s
      | some ds' =>
        simp only [CL.svs, q1, q2] at s
        cases s
        exact ⟨x, r, ex, RO.shown l le (Le.trans (by rw [z]; exact Le.left) lh) e a q1, ROs.shown l le e (Le.trans (by rw [z]; exact Le.right d1) lh) b q2⟩
/-- a call that keeps nothing of what it is handed -/
def wCallL (S : FSpec) (wr : WA) : WE := fun ρ K Z => wr ρ (fun cs ρ1 => opt (svs ρ1 cs) fun ds => ∃ a, S.args a = ds.map .fz ∧ S.pre a ∧ ∀ o, S.out a o → match o with
  | .ok c _ => noLC c = true ∧ K c ρ1
  | .ex x _ => noLs x.ds = true ∧ Z x ρ1) Z
theorem sem_callL {tr : TA} {wr : WA} (b : SemA T W tr wr) : SemE T W (tCallS (spOf T S) (L2.WE W) tr) (wCallL S wr) := fun ρ σ F h H Q K Z g e w hQ hZ => by
  refine b ρ σ F h H _ _ Z g e w (fun vs H1 o => ?_) hZ
  obtain ⟨cs, ρ1, F1, k1, k2, g1, d1, s1, e1, r1, w1⟩ := o
  obtain ⟨ds, eds, a, ea, hp, w2⟩ := opt_of w1
  have ow := own_jn e1.own r1.own
  have g2 : Good T (jn F1 (jn k1 k2)) emp H1 := by
    have g0 : Good T F1 (jn (jn k1 k2) emp) H1 := by rw [jn_emp]; exact g1
    exact (g0.freeze Dis.empr).1
  have r2 : Reps T (jn F1 (jn k1 k2)) ds vs := ROs.shown Le.left (Le.left.trans (Le.right g1.d)) e1 ((Le.right d1).trans (Le.right g1.d)) r1 eds
  refine ⟨a, jn F1 (jn k1 k2), emp, g2, hp, by rw [ea]; exact cos_fz r2, fun c c0 eo v F' h1 h2 H' g3 d3 s3 _ rv => ?_, fun x c0 eo cls d F' h1 h2 H' g3 d3 s3 _ rv => ?_⟩
  · obtain ⟨nl, w3⟩ := w2 _ eo
    obtain ⟨g4, d4, s4, l4, l5⟩ := unlend ow g1 g3 d3 s3
    exact hQ _ _ ⟨c, ρ1, _, k1, h2, g4, d4, s1.trans g1.d s4, e1.mono l4, .inr (CO.unl ow l5 nl rv), w3⟩
  · obtain ⟨nl, w3⟩ := w2 _ eo
    obtain ⟨g4, d4, s4, l4, l5⟩ := unlend ow g1 g3 d3 s3
    refine hZ _ _ _ ⟨x, ρ1, _, k1, h2, g4, d4, s1.trans g1.d s4, e1.mono l4, ⟨rv.1, ?_⟩, w3⟩
    rcases rv.2 with y | ⟨dd, vs', y1, y2, y3, y4, y5⟩
    · exact .inl y
    · exact .inr ⟨dd, vs', y1, y2, y3, y4, Reps.unl ow l5 nl y5⟩
variable {a b e o : Expr} {es : List Expr} {pos p : Pos} {wr : WA} {wa : WE} {kc : Nat}
theorem se_callL {x : Str} (tk : L2N.Takes X W) (f : FnR X.prog X.w X.K X.mg X.base X.A T x S) (ha : SA T W X (e :: es) wr) (hg : Gl X x := by rfl) (hdb : (x == ("__debug__" : Str)) = false := by decide) (he : starEach (e :: es) X.env = (false, eval e X.env) :: starEach es X.env := by rfl) (hpl : (backTo pos (starEach es X.env)).any (·.1) = false := by rfl) :
    SE T W X (.Call (.Name x p) (e :: es) [] pos) (wCallL S wr) := let ⟨_, _, _, _, F, hr, hm, hk, hb⟩ := f; let ⟨_, a1, a2⟩ := ha.ex
  ⟨⟨_, pe_callS F hr hg hm hk hb (fun σ => L2N.passAt tk σ) a1 hdb he hpl, sem_callL a2⟩⟩
/-- a method of a frozen object that keeps nothing of what it is handed -/
def wMethL (kc : Nat) (S : FSpec) (we : WE) (wr : WA) : WE := fun ρ K Z => we ρ (fun c ρ1 => toD ρ1 c fun d ρ2 => match d with
  | .obj k ds => k = kc ∧ wr ρ2 (fun cs ρ3 => opt (svs ρ3 cs) fun es => ∃ a, S.args a = .fz (.obj kc ds) :: es.map .fz ∧ S.pre a ∧ ∀ o, S.out a o → match o with
    | .ok r _ => noLC r = true ∧ K r ρ3
    | .ex _ _ => False) Z
  | _ => False) Z
theorem sem_methL {m : Str} {t : TE} {tr : TA} (hm : (fldN kc).contains m = false) (a : SemE T W t wa) (b : SemA T W tr wr) : SemE T W (tMeth (T.cls kc) m (spOf T S) [] E0 t tr) (wMethL kc S wa wr) := fun ρ σ F h H Q K Z g e w hQ hZ => by
  refine a ρ σ F h H _ _ Z g e w (fun v H1 o => ?_) hZ
  obtain ⟨c, ρ1, F1, k1, k2, g1, d1, s1, e1, r1, w1⟩ := o
  obtain ⟨d, ρ2, F2, he2, g2, s2, e2, r2, w2⟩ := toD_run g1 d1 e1 r1 w1
  have s12 := s1.trans g1.d s2
  cases d with
  | obj kk ds =>
    obtain ⟨rfl, w2⟩ := w2
    obtain ⟨p, dx, xs, rfl, hp, hl, rx⟩ := id r2
    refine ⟨p, dx, _, rfl, g2.f _ _ hp, zip_none hm, b ρ2 σ F2 he2 H1 _ _ Z g2 e2 w2 (fun vs H3 o => ?_) (fun cls d H3 o => hZ cls d H3 (.pre s12 g2 o))⟩
    obtain ⟨cs, ρ3, F3, l1, l2, g3, d3, s3, e3, r3, w3⟩ := o
    obtain ⟨es, ees, x, ea, hpre, w4⟩ := opt_of w3
    have s13 := s12.trans g2.d s3
    have ow := own_jn e3.own r3.own
    have g4 : Good T (jn F3 (jn l1 l2)) emp H3 := by
      have g0 : Good T F3 (jn (jn l1 l2) emp) H3 := by rw [jn_emp]; exact g3
      exact (g0.freeze Dis.empr).1
    have r4 : Reps T (jn F3 (jn l1 l2)) es vs := ROs.shown Le.left (Le.left.trans (Le.right g3.d)) e3 ((Le.right d3).trans (Le.right g3.d)) r3 ees
    rw [List.append_nil]
    refine ⟨x, jn F3 (jn l1 l2), emp, g4, hpre, ?_, fun r c0 eo v F' h1 h2 H' g5 d5 s5 _ rv => ?_, fun y c0 eo cls d F' h1 h2 H' g5 d5 s5 _ rv => ?_⟩
    · rw [ea]
      exact ⟨_, vs, emp, emp, rfl, Dis.empr, by rw [jn_emp], ⟨r2.mono (s3.le.trans Le.left), rfl⟩, cos_fz r4⟩
    · obtain ⟨nl, w5⟩ := w4 _ eo
      obtain ⟨g6, d6, s6, l6, l7⟩ := unlend ow g3 g5 d5 s5
      exact hQ _ _ ⟨r, ρ3, _, l1, h2, g6, d6, s13.trans g3.d s6, e3.mono l6, .inr (CO.unl ow l7 nl rv), w5⟩
    · exact (w4 _ eo).elim
  | _ => exact w2.elim
theorem se_methL {m : Str} {apos : Pos} {pl : Sem Bool} (ok : ClsOk T kc) (hk : X.K = T.K) (f : FnRM X.prog X.w X.K X.mg X.base X.A T kc m S) (ho : SE T W X o wa) (ha : SA T W X (e :: es) wr) (hm : (fldN kc).contains m = false := by decide +kernel)
    (hs : starEach (e :: es) X.env = (false, eval e X.env) :: starEach es X.env := by rfl) (hpl : (backTo pos (starEach es X.env)).any (·.1) = false := by rfl)
    (ht : eval (.Call (.Attribute o m apos) (e :: es) [] pos) X.env = (do
      let ov ← eval o X.env
      standAt apos.atName
      let (f, first) ← holding [ov] (getMethod ov m pl)
      callWith pos f first (backTo pos (starEach (e :: es) X.env)) (backToKw pos (keywordEach [] X.env))) := by rfl) : SE T W X (.Call (.Attribute o m apos) (e :: es) [] pos) (wMethL kc S wa wr) :=
  let ⟨_, _, _, _, F, hr, hme, hb⟩ := f; let ⟨_, a1, a2⟩ := ho.ex; let ⟨_, b1, b2⟩ := ha.ex
  ⟨⟨_, pe_meth (pl := pl) a1 (by rw [hk]; exact ok.cl) hme F hr hb .nil passLN b1 hs hpl ht, sem_methL hm a2 b2⟩⟩
/-! ### the second argument is borrowed -/
def b1K (S : FSpec) (K : Cell → Env → Prop) (Z : KX) (ca : Cell) (ρ2 : Env) (ds : List D) : Prop := match ds with
  | d :: ds => match ca with
    | .ali i => opt ρ2[i]? fun c => ∃ a, S.args a = .fz d :: c :: ds.map .fz ∧ S.pre a ∧ ∀ o, S.out a o → match o with
      | .ok r c0 => K r (ρ2.set i c0)
      | .ex x c0 => Z x (ρ2.set i c0)
    | .fz e => ∃ a, S.args a = .fz d :: .fz e :: ds.map .fz ∧ S.pre a ∧ ∀ o, S.out a o → match o with
      | .ok r _ => K r ρ2
      | .ex x _ => Z x ρ2
    | _ => False
  | [] => False
def b1A (S : FSpec) (K : Cell → Env → Prop) (Z : KX) (cs : List Cell) (ρ1 : Env) : Prop := match cs with
  | c :: ca :: cs => toDs ρ1 (c :: cs) fun ds ρ2 => b1K S K Z ca ρ2 ds
  | _ => False
def wCallB1 (S : FSpec) (wr : WA) : WE := fun ρ K Z => wr ρ (b1A S K Z) Z
theorem sem_callB1 {tr : TA} {wr : WA} (h1 : S.bi = 1) (b : SemA T W tr wr) : SemE T W (tCallS (spOf T S) (L2.WE W) tr) (wCallB1 S wr) := fun ρ σ F h H Q K Z g e w hQ hZ => by
  refine b ρ σ F h H _ _ Z g e w (fun vs H1 o => ?_) hZ
  obtain ⟨cs, ρ1, F1, k1, k2, g1, d1, s1, e1, r1, w1⟩ := o
  match cs, r1, w1 with
  | [], r1, w1 => exact w1.elim
  | [_], r1, w1 => exact w1.elim
  | c :: ca :: cs, ⟨x, vs1, m1, m2, ev, dm, em, ra, ⟨y, vs2, n1, n2, ev2, dn, en, rb, rc⟩⟩, w1 =>
    subst ev; subst ev2; subst en
    replace w1 : toDs ρ1 (c :: cs) fun ds ρ2 => b1K S K Z ca ρ2 ds := w1
    have rr : ROs T F1 σ (c :: cs) (x :: vs2) (jn m1 n2) := ⟨x, vs2, m1, n2, rfl, dm.r, rfl, ra, rc⟩
    have em2 : k2 = jn (jn m1 n2) n1 := by rw [em, ← jn_assoc, jn_swap dn]
    have d2 : Dis k1 (jn (jn m1 n2) n1) := by rw [← em2]; exact d1
    have g2 : Good T F1 (jn (jn k1 (jn m1 n2)) n1) H1 := by rw [jn_assoc, ← em2]; exact g1
    have dd2 : Dis (jn k1 (jn m1 n2)) n1 := Dis.both' d2.r (Dis.both' dm.l dn.symm)
    obtain ⟨ds, ρ2, F2, he2, g3, s3, e3, r3, w3⟩ := toDs_run g2.drop.1 d2.l e1 rr w1
    obtain ⟨g4, s4, d4⟩ := frame g2 dd2 g3 s3
    have s14 : Step F h H F2 (jn he2 n1) H1 := by
      have : jn k1 k2 = jn (jn k1 (jn m1 n2)) n1 := by rw [em2, ← jn_assoc]
      rw [this] at s1 g1
      exact s1.trans g1.d s4
    have rb2 : RO T F2 σ ca y n1 := rb.mono s3.le
    cases ds with
    | nil => exact w3.elim
    | cons d ds =>
    obtain ⟨x', vs', ex, r5, r6⟩ := r3
    cases ex
    cases ca with
    | ali i =>
      obtain ⟨c, ec, a, ea, hp, w4⟩ := opt_of w3
      rcases rb2 with ⟨_, z, hx, ez⟩ | z
      · cases z
        subst ez
        rw [jn_emp] at g4 s14
        obtain ⟨s, l1, l2, x1, x2, x3, x4, f⟩ := e3.get ec
        rw [hx] at x1
        cases x1
        subst x3
        have co : CO T F2 c y l1 := by
          rcases x4 with ⟨z, z2⟩ | ⟨v, ev, z⟩
          · subst z; exact z2
          · cases ev; exact z
        have fr : ∀ {F' h1 h2 H'}, Good T F' (jn h1 h2) H' → Dis h1 h2 → Step F2 l1 H1 F' (jn h1 h2) H' → Good T F' (jn (jn h1 l2) h2) H' ∧ Dis (jn h1 l2) h2 ∧ Step F2 (jn l1 l2) H1 F' (jn (jn h1 l2) h2) H' ∧ Dis h1 l2 := fun {F' h1 h2 H'} g3 d3 s3 => by
          obtain ⟨g4, s4, d4⟩ := frame g4 x2 g3 s3
          rw [jn_swap d4.r'] at g4 s4
          exact ⟨g4, Dis.both' d3 d4.r'.symm, s4, d4.l'⟩
        refine ⟨a, F2, l1, g4.drop.1, hp, ?_, fun r c0 eo v F' h1' h2 H' g5 d5 s5 rc0 rv => ?_, fun z c0 eo cls d0 F' h1' h2 H' g5 d5 s5 rc0 rv => ?_⟩
        · rw [ea]
          exact ⟨x, y :: vs2, emp, l1, rfl, Dis.empl, by rw [emp_jn], ⟨r5, rfl⟩, ⟨y, vs2, l1, emp, rfl, Dis.empr, by rw [jn_emp], co, cos_fz r6⟩⟩
        · replace w4 := w4 _ eo
          rw [h1] at rc0
          obtain ⟨g6, d6, s6, d7⟩ := fr g5 d5 s5
          have z := f F' c0 (some y) h1' s5.le d7 (.inr ⟨y, rfl, rc0⟩)
          rw [set_self hx] at z
          exact hQ _ _ ⟨r, _, F', _, h2, g6, d6, s14.trans g4.d s6, z, .inr rv, w4⟩
        · replace w4 := w4 _ eo
          rw [h1] at rc0
          obtain ⟨g6, d6, s6, d7⟩ := fr g5 d5 s5
          have zz := f F' c0 (some y) h1' s5.le d7 (.inr ⟨y, rfl, rc0⟩)
          rw [set_self hx] at zz
          exact hZ _ _ _ ⟨z, _, F', _, h2, g6, d6, s14.trans g4.d s6, zz, rv, w4⟩
      · exact z.elim
    | fz e0 =>
      obtain ⟨a, ea, hp, w4⟩ := w3
      rcases rb2 with ⟨_, z, _, _⟩ | ⟨z, ez⟩
      · cases z
      subst ez
      rw [jn_emp] at g4 s14
      have g2' : Good T F2 (jn emp he2) H1 := by rw [emp_jn]; exact g4
      have fr : ∀ {F' h1 h2 H'}, Good T F' (jn h1 h2) H' → Dis h1 h2 → Step F2 emp H1 F' (jn h1 h2) H' → Good T F' (jn he2 h2) H' ∧ Dis he2 h2 ∧ Step F2 he2 H1 F' (jn he2 h2) H' := fun {F' h1 h2 H'} g3 d3 s3 => by
        obtain ⟨g4, s4, d4⟩ := frame g2' Dis.empl g3 s3
        rw [emp_jn] at s4
        have e4 : jn (jn h1 h2) he2 = jn (jn he2 h2) h1 := by rw [jn_comm d4, jn_comm d3, jn_assoc]
        rw [e4] at g4 s4
        obtain ⟨g5, s5⟩ := g4.drop
        exact ⟨g5, d4.r'.symm, s4.trans g4.d s5⟩
      refine ⟨a, F2, emp, good_emp g4, hp, ?_, fun r c0 eo v F' h1' h2 H' g5 d5 s5 _ rv => ?_, fun zz c0 eo cls d0 F' h1' h2 H' g5 d5 s5 _ rv => ?_⟩
      · rw [ea]
        exact ⟨x, y :: vs2, emp, emp, rfl, Dis.empr, by rw [jn_emp], ⟨r5, rfl⟩, ⟨y, vs2, emp, emp, rfl, Dis.empr, by rw [jn_emp], ⟨z, rfl⟩, cos_fz r6⟩⟩
      · replace w4 := w4 _ eo
        obtain ⟨g6, d6, s6⟩ := fr g5 d5 s5
        exact hQ _ _ ⟨r, ρ2, F', he2, h2, g6, d6, s14.trans g4.d s6, e3.mono s5.le, .inr rv, w4⟩
      · replace w4 := w4 _ eo
        obtain ⟨g6, d6, s6⟩ := fr g5 d5 s5
        exact hZ _ _ _ ⟨zz, ρ2, F', he2, h2, g6, d6, s14.trans g4.d s6, e3.mono s5.le, rv, w4⟩
    | un => exact w3.elim
    | lst _ => exact w3.elim
    | dct _ _ => exact w3.elim
    | obj _ _ => exact w3.elim
    | lsc _ => exact w3.elim
    | dfz _ _ => exact w3.elim
    | exo _ _ _ _ => exact w3.elim
theorem se_callB1 {x : Str} (tk : L2N.Takes X W) (f : FnR X.prog X.w X.K X.mg X.base X.A T x S) (ha : SA T W X (e :: es) wr) (hg : Gl X x := by rfl) (hdb : (x == ("__debug__" : Str)) = false := by decide) (he : starEach (e :: es) X.env = (false, eval e X.env) :: starEach es X.env := by rfl) (hpl : (backTo pos (starEach es X.env)).any (·.1) = false := by rfl) (h1 : S.bi = 1 := by rfl) :
    SE T W X (.Call (.Name x p) (e :: es) [] pos) (wCallB1 S wr) := let ⟨_, _, _, _, F, hr, hm, hk, hb⟩ := f; let ⟨_, a1, a2⟩ := ha.ex
  ⟨⟨_, pe_callS F hr hg hm hk hb (fun σ => L2N.passAt tk σ) a1 hdb he hpl, sem_callB1 h1 a2⟩⟩
/-! ### a method of the object of slot i, borrowed -/
def isObj (kc : Nat) : Option Cell → Bool
  | some (.obj k _) => k == kc
  | _ => false
theorem zip_takeNone {α : Type} {f : Str} {ns : List Str} {n : Nat} {ds : List α} (h : ns.contains f = false) : ((ns.take n).zip ds).lookup f = none := by
  refine zip_none ?_
  cases q : (ns.take n).contains f with
  | false => rfl
  | true =>
    rw [List.contains_iff_mem] at q
    have := List.contains_iff_mem.mpr (List.mem_of_mem_take q)
    rw [h] at this
    cases this
def wMethB (kc : Nat) (S : FSpec) (i : Nat) (wr : WA) : WE := fun ρ K Z => isObj kc ρ[i]? = true ∧ wr ρ (fun cs ρ1 => toDs ρ1 cs fun ds ρ2 => opt ρ2[i]? fun c => ∃ a, S.args a = c :: ds.map .fz ∧ S.pre a ∧ ∀ o, S.out a o → match o with
  | .ok r c0 => K r (ρ2.set i c0)
  | .ex _ _ => False) Z
theorem sem_methB {m : Str} {i : Nat} {tr : TA} {wr : WA} (h0 : S.bi = 0) (hm : (fldN kc).contains m = false) (b : SemA T W tr wr) : SemE T W (tMeth (T.cls kc) m (spOf T S) [] E0 (tVar i) tr) (wMethB kc S i wr) := fun ρ σ F h H Q K Z g e w hQ hZ => by
  obtain ⟨lv, w⟩ := w
  obtain ⟨x, hx, p, dx, fs, rfl, hp, hl⟩ : ∃ x, σ[i]? = some (some x) ∧ ∃ p dx fs, x = .ref p ∧ H p = some (.ins (T.cls kc) dx fs) ∧ fs.lookup m = none := by
    cases q : ρ[i]? with
    | none => rw [q] at lv; cases lv
    | some c =>
      rw [q] at lv
      cases c with
      | obj k cs =>
        have ek : k = kc := by simpa [isObj] using lv
        subst ek
        obtain ⟨s, l1, l2, x1, x2, x3, x4, _⟩ := e.get q
        rcases x4 with ⟨z, _⟩ | ⟨v, rfl, p, dx, xs, h1, rfl, n1, n2, n3, n4, eh, co⟩
        · cases z
        exact ⟨_, x1, p, dx, ((fldN k).take cs.length).zip xs, rfl, g.o _ _ (by rw [x3, eh]; exact jn_some (jn_some sg_at)), zip_takeNone hm⟩
      | _ => cases lv
  refine ⟨.ref p, hx, p, dx, fs, rfl, hp, hl, b ρ σ F h H _ _ Z g e w (fun vs H1 o => ?_) hZ⟩
  obtain ⟨cs, ρ1, F1, k1, k2, g1, d1, s1, e1, r1, w1⟩ := o
  obtain ⟨ds, ρ2, F2, he2, g2, s2, e2, r2, w2⟩ := toDs_run g1 d1 e1 r1 w1
  obtain ⟨c, ec, a, ea, hpre, w2⟩ := opt_of w2
  have s12 := s1.trans g1.d s2
  obtain ⟨s, l1, l2, x1, x2, x3, x4, f⟩ := e2.get ec
  rw [hx] at x1
  cases x1
  subst x3
  have co : CO T F2 c (.ref p) l1 := by
    rcases x4 with ⟨z, z2⟩ | ⟨v, ev, z⟩
    · subst z; exact z2
    · cases ev; exact z
  have fr : ∀ {F' h1 h2 H'}, Good T F' (jn h1 h2) H' → Dis h1 h2 → Step F2 l1 H1 F' (jn h1 h2) H' → Good T F' (jn (jn h1 l2) h2) H' ∧ Dis (jn h1 l2) h2 ∧ Step F2 (jn l1 l2) H1 F' (jn (jn h1 l2) h2) H' ∧ Dis h1 l2 := fun {F' h1 h2 H'} g3 d3 s3 => by
    obtain ⟨g4, s4, d4⟩ := frame g2 x2 g3 s3
    rw [jn_swap d4.r'] at g4 s4
    exact ⟨g4, Dis.both' d3 d4.r'.symm, s4, d4.l'⟩
  rw [List.append_nil]
  refine ⟨a, F2, l1, g2.drop.1, hpre, ?_, fun r c0 eo v F' h1 h2 H' g3 d3 s3 rc rv => ?_, fun y c0 eo cls d F' h1 h2 H' g3 d3 s3 rc rv => (w2 _ eo).elim⟩
  · rw [ea]
    exact ⟨_, vs, l1, emp, rfl, Dis.empr, by rw [jn_emp], co, cos_fz r2⟩
  · replace w2 := w2 _ eo
    rw [h0] at rc
    obtain ⟨g5, d5, s5, d6⟩ := fr g3 d3 s3
    have z := f F' c0 (some (.ref p)) h1 s3.le d6 (.inr ⟨_, rfl, rc⟩)
    rw [set_self hx] at z
    exact hQ _ _ ⟨r, _, F', _, h2, g5, d5, s12.trans g2.d s5, z, .inr rv, w2⟩
theorem se_methB {m y : Str} {i : Nat} {apos p1 : Pos} {pl : Sem Bool} (ok : ClsOk T kc) (hk : X.K = T.K) (f : FnRM X.prog X.w X.K X.mg X.base X.A T kc m S) (ha : SA T W X (e :: es) wr) (hN : X.N[i]? = some y := by rfl) (hv : Vis X.env.scope y := by first | exact Or.inl rfl | exact Or.inr (Or.inl rfl) | exact Or.inr (Or.inr rfl)) (hd : (y == ("__debug__" : Str)) = false := by decide) (hcd : (y == ("__classdict__" : Str)) = false := by decide) (hm : (fldN kc).contains m = false := by decide +kernel)
    (hs : starEach (e :: es) X.env = (false, eval e X.env) :: starEach es X.env := by rfl) (hpl : (backTo pos (starEach es X.env)).any (·.1) = false := by rfl) (h0 : S.bi = 0 := by rfl)
    (ht : eval (.Call (.Attribute (.Name y p1) m apos) (e :: es) [] pos) X.env = (do
      let ov ← eval (.Name y p1) X.env
      standAt apos.atName
      let (f, first) ← holding [ov] (getMethod ov m pl)
      callWith pos f first (backTo pos (starEach (e :: es) X.env)) (backToKw pos (keywordEach [] X.env))) := by rfl) : SE T W X (.Call (.Attribute (.Name y p1) m apos) (e :: es) [] pos) (wMethB kc S i wr) :=
  let ⟨_, _, _, _, F, hr, hme, hb⟩ := f; let ⟨_, b1, b2⟩ := ha.ex
  ⟨⟨_, pe_meth (pl := pl) (pe_var hN hv hd hcd) (by rw [hk]; exact ok.cl) hme F hr hb .nil passLN b1 hs hpl ht, sem_methB h0 hm b2⟩⟩
end
end CL

/-! # CL: len(set(..)); < and min, max of data -/
namespace CLR
open PySem PySem.Spec PySem.W PyProof.Rows L2
def dd (ns : List Int) : List Int := ns.foldl step_dedup []
theorem dd_met (ns : List Int) : firstMet (fun i => ns.getD i 0) ns.length = dd ns := by
  unfold firstMet dd
  congr 1
  refine List.ext_getElem (by simp) fun i h1 h2 => ?_
  simp [List.getD_eq_getElem?_getD, List.getElem?_eq_getElem h2]
theorem dd_len : ∀ (ns acc : List Int), acc.Nodup → ((ns.foldl step_dedup acc).length ≤ acc.length + ns.length ∧ ((ns.foldl step_dedup acc).length = acc.length + ns.length ↔ (acc ++ ns).Nodup))
  | [], acc, h => by simpa using h
  | a :: r, acc, h => by
    rw [List.foldl_cons]
    by_cases c : a ∈ acc
    · have e : step_dedup acc a = acc := by
        unfold step_dedup
        rw [if_pos (by simpa using c)]
      rw [e]
      have ih := dd_len r acc h
      refine ⟨by rw [List.length_cons]; omega, ⟨fun z => by rw [List.length_cons] at z; omega, fun z => ?_⟩⟩
      exact absurd rfl ((List.nodup_append.mp z).2.2 a c a List.mem_cons_self)
    · have e : step_dedup acc a = acc ++ [a] := by
        unfold step_dedup
        rw [if_neg (by simpa using c)]
      rw [e]
      have hn : (acc ++ [a]).Nodup := List.nodup_append.mpr ⟨h, by simp, fun x hx y hy e' => by simp at hy; subst hy; subst e'; exact c hx⟩
      have ih := dd_len r (acc ++ [a]) hn
      rw [List.append_assoc] at ih
      simp only [List.length_append, List.length_cons, List.length_nil] at ih ⊢
      refine ⟨by omega, ?_⟩
      rw [show acc ++ a :: r = acc ++ ([a] ++ r) from rfl, ← ih.2]
      omega
theorem dd_nodup {ns : List Int} : (dd ns).length = ns.length ↔ ns.Nodup := by
  have z := (dd_len ns [] List.nodup_nil).2
  simpa [dd] using z
theorem dd_le (ns : List Int) : (dd ns).length ≤ ns.length := by
  have z := (dd_len ns [] List.nodup_nil).1
  simpa [dd] using z
def tLenSetG (K : PySem.W.Frag) (ta : TE) : TE := fun σ H Q => ta σ H fun x H1 => ∃ (l : Addr) (ns : List Int), x = .ref l ∧ SqL K H1 l (ns.map V.int) ∧ ns.length ≤ 4000 ∧ Q (.int ((dd ns).length : Nat)) H1
theorem pe_lenSetG {X : Cx} {a : Expr} {ta : TE} {p p2 q pos : Pos} (hg : Gl X "len") (hm : X.mg "len" = none) (hg2 : Gl X "set") (hm2 : X.mg "set" = none) (ha : PE X a ta) (hc : X.calm = true := by rfl)
    (na : starEach [a] X.env = (false, eval a X.env) :: starEach [] X.env := by rfl) : PE X (.Call (.Name "len" p) [.Call (.Name "set" p2) [a] [] q] [] pos) (tLenSetG X.K ta) := by
  refine ⟨fun pins s σ H Q I h => ?_⟩
  refine Call_ (ld_blt I hg hm boot_len ?_)
  refine PyProof.Rows.callWith_builtin1 (PyProof.Rows.args_cons ?_ rfl) rfl rfl
  refine Call_ (ld_blt I hg2 hm2 boot_set ?_)
  refine PyProof.Rows.callWith_type1 (PyProof.Rows.args_cons (thn (ha.run pins s σ H _ I h) fun v s1 ⟨x, H1, I1, r1, q1⟩ => PyProof.Rows.args_nil ?_) na) na rfl
  obtain ⟨l, ns, rfl, hq, hl, q1⟩ := q1
  cases r1
  obtain ⟨its, r, pl, hz⟩ := I1.list hq
  have hlen : its.toArray.size = ns.length := by rw [List.size_toArray, ← r.length, List.length_map]
  refine call_set_list (I1.ok.hd hc) pl.isList (by simpa using RZ.intsAre_vals r) (by rw [hlen]; unfold scanBound; omega) fun h' tk hS hk => ?_
  refine PyProof.Rows.args_nil ?_
  rw [hlen, dd_met] at hS
  obtain ⟨o, es, ep, t, ho, hex, hd, _, _, _, hf, hn⟩ := hS
  have I2 : Inv X pins σ H1 { s1 with heap := h', toks := tk } := I1.kept fun b o e => hk b o (Heap.lt_size e) e
  have := dd_le ns
  exact call_len_set ho hex hd hf (by rw [hn] <;> omega) ⟨.int (dd ns).length, H1, I2.tok _, ⟨_, by rw [hn]⟩, q1⟩
/-! ### < of data -/
def rLtD (K : PySem.W.Frag) : R2 := fun x y H Q => ∃ d e, Dp K H x d ∧ Dp K H y e ∧ alike d e = true ∧ d ≠ .none ∧ min d.depth e.depth ≤ 60 ∧ Q (.bl (dataLt d e)) H
theorem op_ltD {X : Cx} (hu : X.A.units + 64 < cLine) : OpR X (compareOp .Lt) (rLtD X.K) := by
  intro pins s σ H x y v u Q I rx ry h
  obtain ⟨d, e, hd, he, ha, hn, hz, q⟩ := h
  obtain ⟨as, r1⟩ := Dp.reads I d x v hd rx
  obtain ⟨bs, r2⟩ := Dp.reads I e y u he ry
  exact lt_data r1 r2 ha hn (by omega) ⟨.bl _, H, I, rfl, q⟩
/-! ### min, max of data -/
def rMinD (K : PySem.W.Frag) : List V → Hp → VK → Prop := fun vs H Q => ∃ (a : Addr) (xs : List V) (ds : List PyData), vs = [V.ref a] ∧ SqL K H a xs ∧ DpAll K H xs ds ∧ ds ≠ [] ∧ AlikeAll ds ∧ PyData.depthAll ds ≤ 60 ∧
  ∀ (i : Nat) (v : V) (d : PyData), xs[i]? = some v → ds[i]? = some d → (∀ e ∈ ds, dataLt e d = false) → Q v H
def rMaxD (K : PySem.W.Frag) : List V → Hp → VK → Prop := fun vs H Q => ∃ (a : Addr) (xs : List V) (ds : List PyData), vs = [V.ref a] ∧ SqL K H a xs ∧ DpAll K H xs ds ∧ ds ≠ [] ∧ AlikeAll ds ∧ PyData.depthAll ds ≤ 60 ∧
  ∀ (i : Nat) (v : V) (d : PyData), xs[i]? = some v → ds[i]? = some d → (∀ e ∈ ds, dataLt d e = false) → Q v H
theorem lt_trans {a b c : PyData} (h1 : dataLt a b = true) (h2 : dataLt b c = true) : dataLt a c = true := lex_trans _ _ _ h1 h2
theorem lt_irrefl (a : PyData) : dataLt a a = false := lex_irrefl _
theorem minD_mem : ∀ (xs : List PyData) (x : PyData), minD x xs ∈ x :: xs
  | [], x => List.mem_cons_self
  | y :: r, x => by
    show minD (if dataLt y x = true then y else x) r ∈ _
    have ih := minD_mem r (if dataLt y x = true then y else x)
    rcases List.mem_cons.mp ih with h | h
    · rw [h]; split <;> simp
    · simp [h]
theorem below {z m a : PyData} (h0 : dataLt a m = false) (hz : dataLt z a = false) : dataLt z m = false := by
  cases q : dataLt z m with
  | false => rfl
  | true =>
    cases q2 : dataLt m a with
    | true => rw [lt_trans q q2] at hz; cases hz
    | false =>
      have e := lex_total (O := itemOrd) _ _ h0 q2
      unfold dataLt at q hz
      rw [← e] at q
      rw [q] at hz; cases hz
theorem minD_least : ∀ (xs : List PyData) (x : PyData), ∀ e ∈ x :: xs, dataLt e (minD x xs) = false
  | [], x, e, he => by simp at he; subst he; exact lt_irrefl _
  | y :: r, x, e, he => by
    show dataLt e (minD (if dataLt y x = true then y else x) r) = false
    have ih := minD_least r (if dataLt y x = true then y else x)
    have key : ∀ z, dataLt z (if dataLt y x = true then y else x) = false → dataLt z (minD (if dataLt y x = true then y else x) r) = false := fun z hz => below (ih _ List.mem_cons_self) hz
    rcases List.mem_cons.mp he with h | h
    · subst h
      refine key _ ?_
      by_cases c : dataLt y e = true
      · rw [if_pos c]
        cases q : dataLt e y with
        | false => rfl
        | true => have := lt_trans q c; rw [lt_irrefl] at this; cases this
      · rw [if_neg c]; exact lt_irrefl _
    · rcases List.mem_cons.mp h with h | h
      · subst h
        refine key _ ?_
        by_cases c : dataLt e x = true
        · rw [if_pos c]; exact lt_irrefl _
        · rw [if_neg c]; simpa using c
      · exact ih e (List.mem_cons_of_mem _ h)
theorem vals_at : ∀ {xs : List V} {us : List Value} {i : Nat} {u : Value}, Vals xs us → us[i]? = some u → ∃ v, xs[i]? = some v ∧ RelV v u
  | _, _, 0, u, .cons (a := v) r _, h => by simp at h; subst h; exact ⟨_, rfl, r⟩
  | _, _, i + 1, u, .cons _ t, h => by
    obtain ⟨v, a, b⟩ := vals_at (i := i) t (by simpa using h)
    exact ⟨v, by simpa using a, b⟩
theorem cr_minD {X : Cx} (hc : X.calm = true) (hu : X.A.units + 64 < cLine) : CallR X (.builtin "min") (rMinD X.K) := by
  intro pins s σ H vs us Q I r h
  obtain ⟨a, xs, ds, rfl, hs, hd, hne, ha, hz, q⟩ := h
  obtain ⟨its, rv, hl, _⟩ := I.list hs
  rw [Vals.ref1 r]
  cases ds with
  | nil => exact absurd rfl hne
  | cons x ds =>
    obtain ⟨as, hr⟩ := Dp.readsAll I (x :: ds) xs its hd rv
    refine min_list_data (vs := its.toArray) (I.ok.hd hc) hl.isList hr ha (by omega) fun i v h' tk bs hi r2 hk => ?_
    obtain ⟨as1, r1, hlt, m1, _⟩ := readsAll_atA (vs := its.toArray) hr i v hi
    obtain ⟨xv, hx, rel⟩ := vals_at rv (i := i) (u := v) (by simpa using hi)
    have e := alike_unique _ _ v _ _ (ha.1 _ m1 _ (minD_mem ds x)) (reads_keeps hk r1) r2
    have hg : (x :: ds)[i]? = some ((x :: ds).getD i .none) := by
      rw [List.getD_eq_getElem?_getD, List.getElem?_eq_getElem hlt]
      rfl
    exact ⟨xv, H, I.kept hk, rel, q i xv _ hx hg (by rw [e]; exact minD_least ds x)⟩
end CLR
namespace CL
open PySem PySem.W L2
section
variable {T : Tabs} {W : WX} {X : Cx} {a b : Expr} {wa wb : WE} {p p2 q pos : Pos}
def gLenSet : List D → Option D
  | [.lst ds] => (asInts ds).bind fun ns => if ns.length ≤ 4000 then some (.int ((CLR.dd ns).length : Nat)) else none
  | _ => none
theorem se_lenSet (hk : X.K = T.K) (hm : X.mg "len" = none) (hm2 : X.mg "set" = none) (ha : SE T W X a wa) (hc : X.calm = true := by rfl) (hg : Gl X "len" := by rfl) (hg2 : Gl X "set" := by rfl)
    (na : starEach [a] X.env = (false, eval a X.env) :: starEach [] X.env := by rfl) : SE T W X (.Call (.Name "len" p) [.Call (.Name "set" p2) [a] [] q] [] pos) (w1 (fS gLenSet) wa) :=
  let ⟨_, a1, a2⟩ := ha.ex
  ⟨⟨_, CLR.pe_lenSetG hg hm hg2 hm2 a1 hc na, sem_op1 (r := fun x H1 Q => ∃ (l : Addr) (ns : List Int), x = .ref l ∧ SqL X.K H1 l (ns.map V.int) ∧ ns.length ≤ 4000 ∧ Q (.int ((CLR.dd ns).length : Nat)) H1) a2 (op_fS fun vs ds F H Q d l r e k => by
    unfold gLenSet at e
    split at e
    · rename_i es
      cases q : asInts es with
      | none => rw [q] at e; cases e
      | some ns =>
        rw [q] at e
        simp only [Option.bind_some] at e
        split at e
        · cases e
          obtain ⟨x, rfl, ⟨p, xs, rfl, hp, rx⟩⟩ := svs1 r rfl
          rw [rx.ofI q] at hp
          exact ⟨p, ns, rfl, .of hp, by assumption, k _ rfl⟩
        · cases e
    · cases e)⟩⟩
theorem gLenSet_li {ns : List Int} (h : ns.length ≤ 4000) : gLenSet [.lst (ns.map D.int)] = some (.int ((CLR.dd ns).length : Nat)) := by
  simp [gLenSet, ints_map, h]
def isNo : PyData → Bool
  | .none => true
  | _ => false
def gLtD : List D → Option D
  | [d, e] => if lay d 60 && lay e 60 && alike (pd d) (pd e) && !isNo (pd d) then some (.bl (dataLt (pd d) (pd e))) else none
  | _ => none
theorem cmp_ltD (hu : X.A.units + 64 < cLine) (ha : SE T W X a wa) (hb : SE T W X b wb) : SC T W X (.Compare a [.Lt] [b] pos) (w2 (fS gLtD) wa wb) := sc_cmp2 (CLR.op_ltD hu) (op_fS fun vs ds F H Q d l r e k => by
  unfold gLtD at e
  split at e
  · split at e
    · rename_i h
      cases e
      simp only [Bool.and_eq_true] at h
      obtain ⟨x, y, rfl, a, b⟩ := svs2 r rfl
      refine ⟨_, _, SV.dp l a h.1.1.1, SV.dp l b h.1.1.2, h.1.2, fun z => ?_, ?_, k _ rfl⟩
      · rw [z] at h; simp [isNo] at h
      · have := (lay_pd h.1.1.1).2
        omega
    · cases e
  · cases e) ha hb (nomark _)
theorem gLtD_of {d e : D} (h : (lay d 60 && lay e 60 && alike (pd d) (pd e) && !isNo (pd d)) = true) : gLtD [d, e] = some (.bl (dataLt (pd d) (pd e))) := by
  exact if_pos h
def minP (es : List D) : Prop := es ≠ [] ∧ lays es 59 = true ∧ (∀ d ∈ es, ∀ e ∈ es, alike (pd d) (pd e) = true) ∧ ∀ d ∈ es, isNo (pd d) = false
def minK (ρ : Env) (K : Cell → Env → Prop) : List D → Prop
  | [.lst es] => minP es ∧ ∀ d ∈ es, (∀ e ∈ es, dataLt (pd e) (pd d) = false) → K (.fz d) ρ
  | _ => False
def fMinD : WF := fun cs ρ K => opt (svs ρ cs) fun ds => minK ρ K ds
theorem pds_get {es : List D} {i : Nat} {d : PyData} (h : (pds es)[i]? = some d) : ∃ d', es[i]? = some d' ∧ d = pd d' := by
  rw [pds_map, List.getElem?_map, Option.map_eq_some_iff] at h
  obtain ⟨d', a, b⟩ := h
  exact ⟨d', a, b.symm⟩
theorem opS_minD {K : PySem.W.Frag} : OpS T (CLR.rMinD K) fMinD := fun cs ρ vs σ F he ha H Q K' g dd e ro w hQ => by
  obtain ⟨ds, e1, w⟩ := opt_of w
  have r := ROs.svs g dd e ro Le.refl e1
  unfold minK at w
  split at w
  · rename_i es
    obtain ⟨⟨h1, h2, h3, h4⟩, w⟩ := w
    obtain ⟨x, rfl, ⟨p, xs, rfl, hp, rx⟩⟩ := svs1 r rfl
    have mem : ∀ d ∈ pds es, ∃ d' ∈ es, d = pd d' := fun d hd => by
      rw [pds_map] at hd
      obtain ⟨d', a, b⟩ := List.mem_map.mp hd
      exact ⟨d', a, b.symm⟩
    refine ⟨p, xs, pds es, rfl, .of hp, DpAll.le g.f (rx.dp h2), ?_, ⟨fun d hd e he => ?_, fun d hd => ?_⟩, ?_, fun i v d hx hd hm => ?_⟩
    · cases es with
      | nil => exact absurd rfl h1
      | cons _ _ => simp [pds]
    · obtain ⟨d', a, rfl⟩ := mem d hd
      obtain ⟨e', b, rfl⟩ := mem e he
      exact h3 _ a _ b
    · obtain ⟨d', a, rfl⟩ := mem d hd
      intro z
      have := h4 _ a
      rw [z] at this
      cases this
    · have := (lays_pd h2).2
      omega
    · obtain ⟨d', a, rfl⟩ := pds_get hd
      obtain ⟨x', hx', rd⟩ := rx.get a
      rw [hx] at hx'
      cases hx'
      exact hQ _ _ (.fzDrop g e rd (w d' (List.mem_of_getElem? a) fun e he => hm _ (by rw [pds_map]; exact List.mem_map_of_mem he)))
  · exact w.elim
theorem se_minD (hk : X.K = T.K) (hu : X.A.units + 64 < cLine) (hm : X.mg "min" = none) (ha : SE T W X a wa) (hc : X.calm = true := by rfl) (hg : Gl X "min" := by rfl) (he : starEach [a] X.env = (false, eval a X.env) :: starEach [] X.env := by rfl) (hpl : (backTo pos (starEach [] X.env)).any (·.1) = false := by rfl) : SE T W X (.Call (.Name "min" p) [a] [] pos) (w1 fMinD wa) :=
  se_callB (CLR.cr_minD hc hu) opS_minD hm (by decide +kernel) (sa_cons ha sa_nil he) hg (by decide) (by decide) he hpl
end
end CL

/-! # CL: what the end needs of own errors -/
namespace CL
open PySem L2
theorem exm_self {K : PySem.W.Frag} {S : Addr} (h1 : PySem.W.subIn K (.ref S) (.type "BaseException") = some true) (h2 : PySem.W.isClsIn K S = true) (h3 : PySem.W.typeIn K (.ref S) = some (.type "type")) {b : Bool} {c : Value} (h4 : PySem.W.subIn K c (.ref S) = some b) :
    PySem.W.exmOne K c (.ref S) = some b := by
  have e1 : (PySem.W.subIn K (.ref S) (.type "BaseException") == some true) = true := by rw [h1] <;> rfl
  have e2 : ((PySem.W.clsIn K S).isSome && PySem.W.typeIn K (.ref S) == some (.type "type")) = true := by
    have h2' : (PySem.W.clsIn K S).isSome = true := h2
    rw [h2', h3] <;> rfl
  show (if (PySem.W.subIn K (.ref S) (.type "BaseException") == some true) = true then (if ((PySem.W.clsIn K S).isSome && PySem.W.typeIn K (.ref S) == some (.type "type")) = true then PySem.W.subIn K c (.ref S) else none) else none) = some b
  rw [if_pos e1, if_pos e2]
  exact h4
section
variable {P : Program} {w : World} {K : PySem.W.Frag} {mg : Str → Option Value} {base : Heap} {C C0 f : Addr} {fd : FuncData} {st : Stmt} {k : Nat} {X : Cx}
end
end CL

/-! # CL: several names at once; `is` of truth values -/
namespace CL
open PySem L2
def setAll {α : Type} (ρ : List α) : List Nat → List α → List α
  | i :: is, c :: cs => setAll (ρ.set i c) is cs
  | _, _ => ρ
def noAli : List Cell → Bool
  | [] => true
  | .ali _ :: _ => false
  | _ :: cs => noAli cs
section
variable {T : Tabs} {W : WX} {X : Cx} {P : List Nat} {F F' h h' h1 h2 he ha H H' : Hp}
theorem ROs.cos {σ : L2.St} : ∀ {cs : List Cell} {vs : List V} {h : Hp}, noAli cs = true → ROs T F σ cs vs h → COs T F cs vs h
  | [], _, _, _, r => r
  | c :: cs, _, _, n, ⟨x, r, h1, h2, e, dd, z, a, b⟩ => by
    have n' : noAli cs = true := by cases c <;> first | exact n | cases n
    refine ⟨x, r, h1, h2, e, dd, z, ?_, ROs.cos n' b⟩
    rcases a with ⟨i, rfl, _⟩ | a
    · cases n
    · exact a
theorem stores : ∀ {cs : List Cell} {vs : List V} {is : List Nat} {ρ : Env} {σ : L2.St} {he ha : Hp}, Good T F (jn he ha) H → Dis he ha → EnvO T F ρ σ he → COs T F cs vs ha → (∀ i ∈ is, i < ρ.length) → is.length = cs.length →
    ∃ h', Good T F h' H ∧ Step F (jn he ha) H F h' H ∧ EnvO T F (setAll ρ is cs) (setAll σ is (vs.map some)) h'
  | [], vs, is, ρ, σ, he, ha, g, dd, e, r, hi, hl => by
    obtain ⟨rfl, rfl⟩ := r
    rw [jn_emp] at g ⊢
    cases is with
    | nil => exact ⟨he, g, .refl, e⟩
    | cons _ _ => cases hl
  | c :: cs, vs, is, ρ, σ, he, ha, g, dd, e, r, hi, hl => by
    obtain ⟨x, vs', m1, m2, rfl, dm, rfl, a, b⟩ := r
    cases is with
    | nil => cases hl
    | cons i is =>
      have g2 : Good T F (jn (jn he m1) m2) H := by rw [jn_assoc]; exact g
      have d2 : Dis (jn he m1) m2 := Dis.both' dd.r dm
      obtain ⟨h3, g3, s3, e3⟩ := EnvO.store g2.drop.1 dd.l e a (hi i List.mem_cons_self)
      obtain ⟨g4, s4, d4⟩ := frame g2 d2 g3 s3
      obtain ⟨h5, g5, s5, e5⟩ := stores (is := is) g4 d4 e3 b (fun j hj => by rw [List.length_set]; exact hi j (List.mem_cons_of_mem _ hj)) (by simpa using hl)
      refine ⟨h5, g5, ?_, e5⟩
      rw [jn_assoc] at s4
      exact s4.trans g4.d s5
def wPar (is : List Nat) (wr : WA) : WS := fun ρ k => wr ρ (fun cs ρ1 => (noAli cs && decide (cs.length = is.length) && is.all fun i => decide (i < ρ1.length)) = true ∧ k.nx (setAll ρ1 is cs)) k.xc
theorem agAll : ∀ {is : List Nat} {vs : List (Option V)} {σ : L2.St}, (∀ i ∈ is, i ∉ P) → Ag P σ (setAll σ is vs)
  | [], _, _, _ => by unfold setAll; exact .refl
  | _ :: _, [], _, _ => by unfold setAll; exact .refl
  | i :: is, v :: vs, σ, h => (Ag.set (h i List.mem_cons_self)).trans (agAll fun j hj => h j (List.mem_cons_of_mem _ hj))
theorem sem_par {is : List Nat} {ta : TA} {wr : WA} {R : Ends → L2.St → List V → Hp → Prop} (ht : ∀ D σ vs H1, vs.length = is.length → D.nx (setAll σ is (vs.map some)) H1 → R D σ vs H1) (hP : ∀ i ∈ is, i ∉ P) (a : SemA T W ta wr) : SemS T W P (fun D σ H => ta σ H (R D σ)) (wPar is wr) := fun ρ σ F h H E k g e w c => by
  refine (a ρ σ F h H _ _ _ g e w (fun vs H1 o => ?_) c.xe)
  obtain ⟨cs, ρ1, F1, k1, k2, g1, d1, s1, e1, r1, hc, w1⟩ := o
  simp only [Bool.and_eq_true, decide_eq_true_eq, List.all_eq_true] at hc
  have rc := r1.cos hc.1.1
  obtain ⟨h3, g3, s3, e3⟩ := stores g1 d1 e1 rc (fun i hi => hc.2 i hi) hc.1.2.symm
  exact ht _ _ _ _ (by rw [rc.length, hc.1.2]) (c.nx _ _ ⟨_, F1, h3, g3, s1.trans g1.d s3, e3, agAll hP, w1⟩)
variable {wr : WA} {a b c : Expr} {x y z : Str} {px py pz pt pos : Pos} {kt : Nat} {k2 : Nat} {pt2 : Pos}
theorem ss_par (i j : Nat) {k2 : _} (hc : X.calm = true) (hN : X.N.Nodup) (ha : SA T W X [a, b] wr) (hi : X.N[i]? = some x := by rfl) (hj : X.N[j]? = some y := by rfl) (hij : i ≠ j := by decide)
    (hx : X.env.scope.names.lookup x = some .local := by rfl) (hy : X.env.scope.names.lookup y = some .local := by rfl) (hP : ∀ q ∈ [i, j], q ∉ P := by first | decide | exact fun _ _ => List.not_mem_nil)
    (hw : swappedStores [.Tuple [.Name x px, .Name y py] kt pt] (.Tuple [a, b] k2 pt2) X.env = pure (some [x, y]) := by rfl)
    (hs : swapsWithSole [.Tuple [.Name x px, .Name y py] kt pt] (.Tuple [a, b] k2 pt2) pos.line X.env = pure false := by rfl) :
    SS T W P X (.Assign [.Tuple [.Name x px, .Name y py] kt pt] (.Tuple [a, b] k2 pt2) pos) (wPar [i, j] wr) := let ⟨_, a1, a2⟩ := ha.ex
  ⟨⟨_, ps_par hc hN hi hj hij hx hy a1 hw hs, sem_par (R := fun D σ vs H1 => ∃ v w, vs = [v, w] ∧ D.nx ((σ.set i (some v)).set j (some w)) H1) (fun D σ vs H1 hl q => by
    match vs, hl, q with
    | [v, w], _, q => exact ⟨v, w, rfl, q⟩) hP a2⟩⟩
theorem ss_par3 (i j l : Nat) {k2 : _} (hc : X.calm = true) (hN : X.N.Nodup) (ha : SA T W X [a, b, c] wr) (hi : X.N[i]? = some x := by rfl) (hj : X.N[j]? = some y := by rfl) (hl : X.N[l]? = some z := by rfl) (hij : i ≠ j := by decide) (hil : i ≠ l := by decide) (hjl : j ≠ l := by decide)
    (hx : X.env.scope.names.lookup x = some .local := by rfl) (hy : X.env.scope.names.lookup y = some .local := by rfl) (hz : X.env.scope.names.lookup z = some .local := by rfl) (hP : ∀ q ∈ [i, j, l], q ∉ P := by first | decide | exact fun _ _ => List.not_mem_nil)
    (hw : swappedStores [.Tuple [.Name x px, .Name y py, .Name z pz] kt pt] (.Tuple [a, b, c] k2 pt2) X.env = pure (some [x, y, z]) := by rfl)
    (hs : swapsWithSole [.Tuple [.Name x px, .Name y py, .Name z pz] kt pt] (.Tuple [a, b, c] k2 pt2) pos.line X.env = pure false := by rfl) :
    SS T W P X (.Assign [.Tuple [.Name x px, .Name y py, .Name z pz] kt pt] (.Tuple [a, b, c] k2 pt2) pos) (wPar [i, j, l] wr) := let ⟨_, a1, a2⟩ := ha.ex
  ⟨⟨_, ps_par3 hc hN hi hj hl hij hil hjl hx hy hz a1 hw hs, sem_par (R := fun D σ vs H1 => ∃ u v w, vs = [u, v, w] ∧ D.nx (((σ.set i (some u)).set j (some v)).set l (some w)) H1) (fun D σ vs H1 hl q => by
    match vs, hl, q with
    | [u, v, w], _, q => exact ⟨u, v, w, rfl, q⟩) hP a2⟩⟩
/-- where a name is a cell: by a tuple -/
theorem sem_parT {is : List Nat} {ta : TA} {tg : TG} {wr : WA} (ht : ∀ (vs : List V) p σ H Q, vs.length = is.length → H p = some (.tup vs) → Q (setAll σ is (vs.map some)) H → tg (.ref p) σ H Q) (hn : is.length ≤ 1000) (hP : ∀ i ∈ is, i ∉ P) (a : SemA T W ta wr) : SemS T W P (tAsg (tTup ta) tg) (wPar is wr) := fun ρ σ F h H E k g e w c => by
  refine a ρ σ F h H _ _ _ g e w (fun vs H1 o => ?_) c.xe
  obtain ⟨cs, ρ1, F1, k1, k2, g1, d1, s1, e1, r1, hc, w1⟩ := o
  simp only [Bool.and_eq_true, decide_eq_true_eq, List.all_eq_true] at hc
  have rc := r1.cos hc.1.1
  have hl : vs.length = is.length := by rw [rc.length, hc.1.2]
  refine ⟨by rw [hl]; exact line1000 hn, fun p hp => ?_⟩
  obtain ⟨g2, s2, d2⟩ := g1.alloc (o := .tup vs) hp (fun _ z => nomatch z)
  obtain ⟨g2', s2'⟩ := g2.drop
  obtain ⟨h3, g3, s3, e3⟩ := stores g2' d1 e1 rc (fun i hi => hc.2 i hi) hc.1.2.symm
  exact ht vs p σ _ _ hl upd_same (c.nx _ _ ⟨_, F1, h3, g3, ((s1.trans g1.d s2).trans g2.d s2').trans g2'.d s3, e3, agAll hP, w1⟩)
theorem ss_parT (i j : Nat) {k2 : _} (hc : X.calm = true) (hN : X.N.Nodup) (ha : SA T W X [a, b] wr) (hi : X.N[i]? = some x := by rfl) (hj : X.N[j]? = some y := by rfl)
    (hx : Loc X.env.scope x := by first | exact .inl rfl | exact .inr rfl) (hy : Loc X.env.scope y := by first | exact .inl rfl | exact .inr rfl)
    (fx : X.fn x = true ∨ X.env.scope.names.lookup x = some .local := by first | exact .inl rfl | exact .inr rfl) (fy : X.fn y = true ∨ X.env.scope.names.lookup y = some .local := by first | exact .inl rfl | exact .inr rfl) (hP : ∀ q ∈ [i, j], q ∉ P := by first | decide | exact fun _ _ => List.not_mem_nil)
    (hs : swapsWithSole [.Tuple [.Name x px, .Name y py] kt pt] (.Tuple [a, b] k2 pt2) pos.line X.env = pure false := by rfl) (hw : swappedStores [.Tuple [.Name x px, .Name y py] kt pt] (.Tuple [a, b] k2 pt2) X.env = pure none := by rfl)
    (h1 : (assignEach [.Tuple [.Name x px, .Name y py] kt pt] X.env).map (·.2) = [assign (.Tuple [.Name x px, .Name y py] kt pt) X.env] := by rfl) :
    SS T W P X (.Assign [.Tuple [.Name x px, .Name y py] kt pt] (.Tuple [a, b] k2 pt2) pos) (wPar [i, j] wr) := let ⟨_, a1, a2⟩ := ha.ex
  ⟨⟨_, ps_asg (pe_tup a1) (pg_tup (n := 2) hc (pgs_cons (pg_name hN hi hx fx) (pgs_cons (pg_name hN hj hy fy) pgs_nil))) hs hw h1, sem_parT (fun vs p σ H Q hl hp q => by
    match vs, hl, hp, q with
    | [v, w], _, hp, q => exact ⟨p, _, rfl, .of hp, rfl, v, _, rfl, w, _, rfl, rfl, q⟩) (by simp) hP a2⟩⟩
theorem ss_parT3 (i j l : Nat) {k2 : _} (hc : X.calm = true) (hN : X.N.Nodup) (ha : SA T W X [a, b, c] wr) (hi : X.N[i]? = some x := by rfl) (hj : X.N[j]? = some y := by rfl) (hl : X.N[l]? = some z := by rfl)
    (hx : Loc X.env.scope x := by first | exact .inl rfl | exact .inr rfl) (hy : Loc X.env.scope y := by first | exact .inl rfl | exact .inr rfl) (hz : Loc X.env.scope z := by first | exact .inl rfl | exact .inr rfl)
    (fx : X.fn x = true ∨ X.env.scope.names.lookup x = some .local := by first | exact .inl rfl | exact .inr rfl) (fy : X.fn y = true ∨ X.env.scope.names.lookup y = some .local := by first | exact .inl rfl | exact .inr rfl) (fz : X.fn z = true ∨ X.env.scope.names.lookup z = some .local := by first | exact .inl rfl | exact .inr rfl) (hP : ∀ q ∈ [i, j, l], q ∉ P := by first | decide | exact fun _ _ => List.not_mem_nil)
    (hs : swapsWithSole [.Tuple [.Name x px, .Name y py, .Name z pz] kt pt] (.Tuple [a, b, c] k2 pt2) pos.line X.env = pure false := by rfl) (hw : swappedStores [.Tuple [.Name x px, .Name y py, .Name z pz] kt pt] (.Tuple [a, b, c] k2 pt2) X.env = pure none := by rfl)
    (h1 : (assignEach [.Tuple [.Name x px, .Name y py, .Name z pz] kt pt] X.env).map (·.2) = [assign (.Tuple [.Name x px, .Name y py, .Name z pz] kt pt) X.env] := by rfl) :
    SS T W P X (.Assign [.Tuple [.Name x px, .Name y py, .Name z pz] kt pt] (.Tuple [a, b, c] k2 pt2) pos) (wPar [i, j, l] wr) := let ⟨_, a1, a2⟩ := ha.ex
  ⟨⟨_, ps_asg (pe_tup a1) (pg_tup (n := 3) hc (pgs_cons (pg_name hN hi hx fx) (pgs_cons (pg_name hN hj hy fy) (pgs_cons (pg_name hN hl hz fz) pgs_nil)))) hs hw h1, sem_parT (fun vs p σ H Q hl hp q => by
    match vs, hl, hp, q with
    | [u, v, w], _, hp, q => exact ⟨p, _, rfl, .of hp, rfl, u, _, rfl, v, _, rfl, w, _, rfl, rfl, q⟩) (by simp) hP a2⟩⟩
/-! x is False -/
def gIsB : List D → Option D
  | [.bl b, .bl c] => some (.bl (decide (b = c)))
  | _ => none
variable {wa wb : WE}
theorem cmp_isB (ha : SE T W X a wa) (hb : SE T W X b wb) : SC T W X (.Compare a [.Is] [b] pos) (w2 (fS gIsB) wa wb) := sc_cmp2 op_isBl (op_fS fun vs ds F H Q d l r e k => by
  unfold gIsB at e
  split at e
  · cases e
    obtain ⟨x, y, rfl, a, b⟩ := svs2 r rfl
    cases a
    cases b
    exact ⟨_, _, rfl, rfl, k _ rfl⟩
  · cases e) ha hb (nomark _)
end
end CL

/-! # CL: dicts that objects own; comprehensions over pairs -/
namespace CL
open PySem L2
theorem zip_at {α : Type} {f : Str} {x : α} : ∀ {ns : List Str} {xs : List α} {j : Nat}, ns.Nodup → ns[j]? = some f → xs[j]? = some x → (ns.zip xs).lookup f = some x
  | [], _, _, _, h, _ => by simp at h
  | _ :: _, [], _, _, _, h => by simp at h
  | n :: ns, y :: ys, 0, _, h, h' => by
    simp at h h'
    subst h; subst h'
    rw [List.zip_cons_cons]
    simp [List.lookup]
  | n :: ns, y :: ys, j + 1, hn, h, h' => by
    have hm : f ∈ ns := List.mem_of_getElem? (by simpa using h)
    have h1 : (f == n) = false := by
      cases q : (f == n) with
      | false => rfl
      | true => exact absurd (eq_of_beq q ▸ hm) (List.nodup_cons.mp hn).1
    rw [List.zip_cons_cons, List.lookup_cons, h1]
    exact zip_at (List.nodup_cons.mp hn).2 (by simpa using h) (by simpa using h')
section
variable {T : Tabs} {W : WX} {X : Cx} {P : List Nat} {ρ ρ' : Env} {σ σ' : L2.St} {F F' h h' h1 h2 ha he H H' H'' : Hp} {kc jf i j : Nat} {wa wb : WE}
theorem EnvO.fld {ks : List Key} {ds : List D} {cs : List Cell} (e : EnvO T F ρ σ he) (q : ρ[i]? = some (.obj kc cs)) (qj : cs[jf]? = some (.dct ks ds)) :
    ∃ p dx xs qa vs l, σ[i]? = some (some (.ref p)) ∧ he p = some (.ins (T.cls kc) dx (((fldN kc).take cs.length).zip xs)) ∧ xs[jf]? = some (.ref qa) ∧ xs.length = cs.length ∧ l qa = none ∧ he = jn (sg qa (.dK (ks.zip vs))) l ∧ ks.length = ds.length ∧ Reps T F ds vs ∧
      ∀ F' ks' ds' vs', Le F F' → ks'.length = ds'.length → Reps T F' ds' vs' → EnvO T F' (ρ.set i (.obj kc (cs.set jf (.dct ks' ds')))) σ (jn (sg qa (.dK (ks'.zip vs'))) l) := by
  obtain ⟨s, l1, l2, x1, x2, x3, x4, ff⟩ := e.get q
  rcases x4 with ⟨z, _⟩ | ⟨v', ev, p, dx, xs, h1, rfl, n1, n2, n3, n4, eh, co⟩
  · cases z
  subst ev
  obtain ⟨x, la, lb, q1, q2, q3, ⟨qa, vs, rfl, n, rfl, rx⟩, gg⟩ := co.get qj
  subst q3
  subst eh
  have pa : (sg qa (HO.dK (ks.zip vs))) p = none := jn_nl n2
  have da : (sg qa (HO.dK (ks.zip vs))) dx = none := jn_nl n3
  have pq : qa ≠ p := fun z => by rw [z, sg_at] at pa; cases pa
  have dq : qa ≠ dx := fun z => by rw [z, sg_at] at da; cases da
  have lbq : lb qa = none := q2.at
  have l2q : l2 qa = none := by
    have z := x2.r'.r'.l'
    exact z.at
  have sw : ∀ o : HO, jn (jn (sg p (HO.ins (T.cls kc) dx (((fldN kc).take cs.length).zip xs))) (jn (sg dx (.own p)) (jn (sg qa o) lb))) l2 = jn (sg qa o) (jn (jn (sg p (HO.ins (T.cls kc) dx (((fldN kc).take cs.length).zip xs))) (jn (sg dx (.own p)) lb)) l2) := fun o => by
    have d1 : Dis (sg dx (HO.own p)) (sg qa o) := Dis.single' (sg_ne (fun z => dq z.symm))
    have d2 : Dis (sg p (HO.ins (T.cls kc) dx (((fldN kc).take cs.length).zip xs))) (sg qa o) := Dis.single' (sg_ne (fun z => pq z.symm))
    rw [jn_left d1, jn_left d2, jn_assoc]
  refine ⟨p, dx, xs, qa, vs, _, x1, ?_, q1, co.length, ?_, x3.trans (sw _), n, rx, fun F' ks' ds' vs' l n' r' => ?_⟩
  · rw [x3]; exact jn_some (jn_some sg_at)
  · exact jn_nn (jn_nn (sg_ne pq) (jn_nn (sg_ne dq) lbq)) l2q
  · have co' := gg F' (.dct ks' ds') (.ref qa) (sg qa (.dK (ks'.zip vs'))) l (Dis.single' lbq) ⟨qa, vs', rfl, n', rfl, r'⟩
    rw [set_self q1] at co'
    have pa' : (jn (sg qa (HO.dK (ks'.zip vs'))) lb) p = none := jn_nn (sg_ne (fun z => pq z.symm)) (jn_nr n2)
    have da' : (jn (sg qa (HO.dK (ks'.zip vs'))) lb) dx = none := jn_nn (sg_ne (fun z => dq z.symm)) (jn_nr n3)
    have dl : Dis (jn (sg p (HO.ins (T.cls kc) dx (((fldN kc).take cs.length).zip xs))) (jn (sg dx (.own p)) (jn (sg qa (.dK (ks'.zip vs'))) lb))) l2 :=
      Dis.both' (Dis.single' x2.l'.at) (Dis.both' (Dis.single' x2.r'.l'.at) (Dis.both' (Dis.single' l2q) x2.r'.r'.r'))
    have z := ff F' (.obj kc (cs.set jf (.dct ks' ds'))) (some (.ref p)) _ l dl (.inr ⟨_, rfl, p, dx, xs, _, rfl, n1, pa', da', by simpa using n4, by rw [List.length_set], co'⟩)
    rw [set_self x1, sw] at z
    exact z
/-- the dict in field jf of the object of slot i -/
def fldD (kc jf : Nat) : Option Cell → Option (List Key × List D)
  | some (.obj k cs) => if k = kc then (match cs[jf]? with
    | some (.dct ks ds) => some (ks, ds)
    | _ => none) else none
  | _ => none
theorem fldD_of {o : Option Cell} {p : List Key × List D} (h : fldD kc jf o = some p) : ∃ cs, o = some (.obj kc cs) ∧ cs[jf]? = some (.dct p.1 p.2) := by
  unfold fldD at h
  split at h
  · split at h
    · rename_i k cs e
      subst e
      split at h
      · rename_i ks ds q
        cases h
        exact ⟨cs, rfl, q⟩
      · cases h
    · cases h
  · cases h
/-- a slot's plain key -/
def keyO : Option Cell → Option Key
  | some (.fz d) => kd d
  | _ => none
theorem keyO_run {k : Key} (e : EnvO T F ρ σ he) (h : keyO ρ[j]? = some k) : σ[j]? = some (some (kV k)) := by
  unfold keyO at h
  split at h
  · rename_i d q
    obtain ⟨s, _, _, x1, _, _, x4, _⟩ := e.get q
    rcases x4 with ⟨z, _⟩ | ⟨v, rfl, r, _⟩
    · cases z
    · rw [x1, r.kd h]
  · cases h
def wFDGet (i kc jf j : Nat) : WE := fun ρ K _ => opt (fldD kc jf ρ[i]?) fun p => opt (keyO ρ[j]?) fun k => opt (dlk p.1 p.2 k) fun d => K (.fz d) ρ
/-- what self.f asks, self the object of slot i -/
theorem run_fldD {f : Str} {p : List Key × List D} (ok : ClsOk T kc) (hj : (fldN kc)[jf]? = some f) (hnd : (fldN kc).Nodup) (g : Good T F he H) (e : EnvO T F ρ σ he) (q : fldD kc jf ρ[i]? = some p) :
    ∃ qa vs l, l qa = none ∧ he = jn (sg qa (.dK (p.1.zip vs))) l ∧ p.1.length = p.2.length ∧ Reps T F p.2 vs ∧ (∀ Q : VK, Q (.ref qa) H → tFld T.K (tVar i) f σ H Q) ∧
      ∀ F' ks' ds' vs', Le F F' → ks'.length = ds'.length → Reps T F' ds' vs' → ∃ cs, ρ[i]? = some (.obj kc cs) ∧ EnvO T F' (ρ.set i (.obj kc (cs.set jf (.dct ks' ds')))) σ (jn (sg qa (.dK (ks'.zip vs'))) l) := by
  obtain ⟨cs, q1, q2⟩ := fldD_of q
  obtain ⟨a, dx, xs, qa, vs, l, h1, h2, h3, h4, h5, h6, h7, h8, h9⟩ := e.fld q1 q2
  refine ⟨qa, vs, l, h5, h6, h7, h8, fun Q hQ => ?_, fun F' ks' ds' vs' le n' r' => ⟨cs, q1, h9 F' ks' ds' vs' le n' r'⟩⟩
  refine ⟨_, h1, a, _, dx, _, .ref qa, rfl, g.o _ _ h2, ok.cl, ok.no f (List.mem_of_getElem? hj), ?_, hQ⟩
  rw [zip_take (by rw [h4]; exact Nat.le_refl _)]
  exact zip_at hnd hj h3
theorem sem_fdget {f : Str} (ok : ClsOk T kc) (hj : (fldN kc)[jf]? = some f) (hnd : (fldN kc).Nodup) : SemE T W (tDGet (tFld T.K (tVar i) f) (tVar j)) (wFDGet i kc jf j) := fun ρ σ F h H Q K Z g e w hQ hZ => by
  obtain ⟨p, ep, w⟩ := opt_of w
  obtain ⟨k, ek, w⟩ := opt_of w
  obtain ⟨d, ed, w⟩ := opt_of w
  obtain ⟨qa, vs, l, h1, h2, h3, h4, h5, h6⟩ := run_fldD ok hj hnd g e ep
  refine h5 _ ⟨_, keyO_run e ek, qa, ?_⟩
  rcases dlk_val k h4 h3 with ⟨z, _⟩ | ⟨d', x', y1, y2, y3⟩
  · rw [z] at ed; cases ed
  · rw [y1] at ed
    cases ed
    refine ⟨x', rfl, ?_, hQ _ _ (.fz g e y3 w)⟩
    rw [← y2]
    exact DGet.k (g.o _ _ (by rw [h2]; exact jn_some sg_at))
variable {a b o value e : Expr} {es : List Expr} {pos p : Pos} {wr : WA}
theorem se_fdget (i j jf : Nat) {x y f : Str} {p1 p2 p3 : Pos} (hu : X.A.units + 1 < cLine) (ok : ClsOk T kc) (hk : X.K = T.K) (hj : (fldN kc)[jf]? = some f := by rfl) (hnd : (fldN kc).Nodup := by decide +kernel)
    (hN : X.N[i]? = some x := by rfl) (hv : Vis X.env.scope x := by first | exact Or.inl rfl | exact Or.inr (Or.inl rfl) | exact Or.inr (Or.inr rfl)) (hd : (x == ("__debug__" : Str)) = false := by decide) (hcd : (x == ("__classdict__" : Str)) = false := by decide)
    (hN2 : X.N[j]? = some y := by rfl) (hv2 : Vis X.env.scope y := by first | exact Or.inl rfl | exact Or.inr (Or.inl rfl) | exact Or.inr (Or.inr rfl)) (hd2 : (y == ("__debug__" : Str)) = false := by decide) (hcd2 : (y == ("__classdict__" : Str)) = false := by decide)
    (hb : attributeBase (.Name x p1) f X.env (eval (.Name x p1) X.env) = eval (.Name x p1) X.env := by rfl) (hs : NoSl (.Name y p3) := by exact fun _ _ => rfl) : SE T W X (.Subscript (.Attribute (.Name x p1) f p2) (.Name y p3) pos) (wFDGet i kc jf j) :=
  ⟨⟨_, pe_dget hu (pe_fld (pe_var hN hv hd hcd) hb) (pe_var hN2 hv2 hd2 hcd2) hs, by rw [hk]; exact sem_fdget ok hj hnd⟩⟩
/-- dict(self.f) -/
def wFDCopy (i kc jf : Nat) : WE := fun ρ K _ => opt (fldD kc jf ρ[i]?) fun p => K (.dct p.1 p.2) ρ
theorem se_fdcopy (i jf : Nat) {x f : Str} {p1 p2 : Pos} (ok : ClsOk T kc) (hk : X.K = T.K) (hm : X.mg "dict" = none) (hj : (fldN kc)[jf]? = some f := by rfl) (hnd : (fldN kc).Nodup := by decide +kernel)
    (hN : X.N[i]? = some x := by rfl) (hv : Vis X.env.scope x := by first | exact Or.inl rfl | exact Or.inr (Or.inl rfl) | exact Or.inr (Or.inr rfl)) (hd : (x == ("__debug__" : Str)) = false := by decide) (hcd : (x == ("__classdict__" : Str)) = false := by decide)
    (hb : attributeBase (.Name x p1) f X.env (eval (.Name x p1) X.env) = eval (.Name x p1) X.env := by rfl) (hg : Gl X "dict" := by rfl)
    (he : starEach [.Attribute (.Name x p1) f p2] X.env = (false, eval (.Attribute (.Name x p1) f p2) X.env) :: starEach [] X.env := by rfl) (hpl : (backTo pos (starEach [] X.env)).any (·.1) = false := by rfl) : SE T W X (.Call (.Name "dict" p) [.Attribute (.Name x p1) f p2] [] pos) (wFDCopy i kc jf) :=
  ⟨⟨_, pe_callTy call_dictD hg hm (by decide +kernel) (pa_cons (pe_fld (pe_var hN hv hd hcd) hb) pa_nil he) (by decide) (by decide) he hpl, fun ρ σ F h H Q K Z g e w hQ hZ => by
    obtain ⟨p, ep, w⟩ := opt_of w
    obtain ⟨qa, vs, l, h1, h2, h3, h4, h5, h6⟩ := run_fldD ok hj hnd g e ep
    rw [hk]
    refine h5 _ ⟨qa, p.1.zip vs, rfl, .of (g.o _ _ (by rw [h2]; exact jn_some sg_at)), fun q hq => ?_⟩
    obtain ⟨a, b, c⟩ := g.alloc (o := .dK (p.1.zip vs)) hq (fun _ z => nomatch z)
    exact hQ _ _ ⟨.dct p.1 p.2, ρ, F, h, _, a, c, b, e, .inr ⟨q, vs, rfl, h3, rfl, h4⟩, w⟩⟩⟩
/-- self.f[k] = v -/
def setFD (ρ : Env) (i kc jf : Nat) (ks : List Key) (ds : List D) : Env := match ρ[i]? with
  | some (.obj _ cs) => ρ.set i (.obj kc (cs.set jf (.dct ks ds)))
  | _ => ρ
def wFDPut (i kc jf : Nat) (wv : WE) (j : Nat) : WS := fun ρ s => wv ρ (fun c ρ1 => toD ρ1 c fun d ρ2 => opt (fldD kc jf ρ2[i]?) fun p => opt (keyO ρ2[j]?) fun key => p.1.length < sizeLine ∧ s.nx (setFD ρ2 i kc jf (dputK p.1 key) (dputD p.1 p.2 key d))) s.xc
theorem sem_fdput {f : Str} {tv : TE} (ok : ClsOk T kc) (hj : (fldN kc)[jf]? = some f) (hnd : (fldN kc).Nodup) (a : SemE T W tv wa) : SemS T W P (sDPut (tFld T.K (tVar i) f) (tVar j) tv) (wFDPut i kc jf wa j) := fun ρ σ F h H E k g0 e w c => by
  refine a ρ σ F h H _ _ _ g0 e w (fun v H1 o => ?_) c.xe
  obtain ⟨c1, ρ1, F1, k1, k2, g1, d1, s1, e1, r1, w1⟩ := o
  obtain ⟨d, ρ2, F2, he2, g2, s2, e2, r2, w2⟩ := toD_run g1 d1 e1 r1 w1
  have s12 := s1.trans g1.d s2
  obtain ⟨p, ep, w2⟩ := opt_of w2
  obtain ⟨key, ek, w2⟩ := opt_of w2
  obtain ⟨qa, vs, l, h1, h2, h3, h4, h5, h6⟩ := run_fldD ok hj hnd g2 e2 ep
  refine h5 _ ⟨_, keyO_run e2 ek, ?_⟩
  subst h2
  have hp : H1 qa = some (.dK (p.1.zip vs)) := g2.o _ _ (jn_some sg_at)
  obtain ⟨g4, s4⟩ := g2.write (o' := .dK ((dputK p.1 key).zip (dputD p.1 vs key v))) h1 (fun _ z => nomatch z)
  have hl2 : p.1.length = vs.length := by rw [h4.length]; exact h3
  obtain ⟨cs, ec, e5⟩ := h6 F2 (dputK p.1 key) (dputD p.1 p.2 key d) (dputD p.1 vs key v) Le.refl (dput_length h3) (h4.put h3 r2)
  refine ⟨qa, _, rfl, DPut.k hp (by rw [List.length_zip, ← hl2, Nat.min_self]; exact w2.1), ?_⟩
  rw [zip_put hl2]
  have w3 := w2.2
  unfold setFD at w3
  rw [ec] at w3
  exact c.nx _ _ ⟨_, F2, _, g4, s12.trans g2.d s4, e5, .refl, w3⟩
theorem ss_fdput (i jf j : Nat) {x y f : Str} {p1 p2 p3 p4 : Pos} (hu : X.A.units + 1 < cLine) (ok : ClsOk T kc) (hk : X.K = T.K) (hv : SE T W X value wa) (hj : (fldN kc)[jf]? = some f := by rfl) (hnd : (fldN kc).Nodup := by decide +kernel)
    (hN : X.N[i]? = some x := by rfl) (hvi : Vis X.env.scope x := by first | exact Or.inl rfl | exact Or.inr (Or.inl rfl) | exact Or.inr (Or.inr rfl)) (hd : (x == ("__debug__" : Str)) = false := by decide) (hcd : (x == ("__classdict__" : Str)) = false := by decide)
    (hN2 : X.N[j]? = some y := by rfl) (hv2 : Vis X.env.scope y := by first | exact Or.inl rfl | exact Or.inr (Or.inl rfl) | exact Or.inr (Or.inr rfl)) (hd2 : (y == ("__debug__" : Str)) = false := by decide) (hcd2 : (y == ("__classdict__" : Str)) = false := by decide)
    (hb : attributeBase (.Name x p1) f X.env (eval (.Name x p1) X.env) = eval (.Name x p1) X.env := by rfl)
    (hs : swapsWith value (some (.Subscript (.Attribute (.Name x p1) f p2) (.Name y p3) p4)) pos.line X.env = pure false := by rfl) :
    SS T W P X (.Assign [.Subscript (.Attribute (.Name x p1) f p2) (.Name y p3) p4] value pos) (wFDPut i kc jf wa j) := let ⟨_, a1, a2⟩ := hv.ex
  ⟨⟨_, ps_dput hu (pe_fld (pe_var hN hvi hd hcd) hb) (pe_var hN2 hv2 hd2 hcd2) a1 hs, by rw [hk]; exact sem_fdput ok hj hnd a2⟩⟩
/-- d.get(k, None) -/
def wDGetN (i j : Nat) : WE := fun ρ K _ => match ρ[i]? with
  | some (.dct ks ds) => opt (keyO ρ[j]?) fun k => K (.fz ((dlk ks ds k).getD .non)) ρ
  | _ => False
theorem se_dgetN (i j : Nat) {x y : Str} {p1 p2 p3 p4 : Pos} {kk : Nat} (hu : X.A.units + 1 < cLine) (m : M2 X (.Name x p1) "get" p2 (.Name y p3) (.Constant .none kk p4) pos)
    (hN : X.N[i]? = some x := by rfl) (hv : Vis X.env.scope x := by first | exact Or.inl rfl | exact Or.inr (Or.inl rfl) | exact Or.inr (Or.inr rfl)) (hd : (x == ("__debug__" : Str)) = false := by decide) (hcd : (x == ("__classdict__" : Str)) = false := by decide)
    (hN2 : X.N[j]? = some y := by rfl) (hv2 : Vis X.env.scope y := by first | exact Or.inl rfl | exact Or.inr (Or.inl rfl) | exact Or.inr (Or.inr rfl)) (hd2 : (y == ("__debug__" : Str)) = false := by decide) (hcd2 : (y == ("__classdict__" : Str)) = false := by decide) :
    SE T W X (.Call (.Attribute (.Name x p1) "get" p2) [.Name y p3, .Constant .none kk p4] [] pos) (wDGetN i j) :=
  ⟨⟨_, pe_dget2 hu (pe_var hN hv hd hcd) (pe_var hN2 hv2 hd2 hcd2) pe_non m, fun ρ σ F h H Q K Z g e w hQ hZ => by
    unfold wDGetN at w
    split at w
    · rename_i ks ds q
      obtain ⟨k, ek, w⟩ := opt_of w
      obtain ⟨s, l1, l2, x1, x2, x3, x4, _⟩ := e.get q
      rcases x4 with ⟨z, _⟩ | ⟨v, rfl, p, xs, rfl, n, eh, rx⟩
      · cases z
      have hp : H p = some (.dK (ks.zip xs)) := g.o _ _ (by rw [x3, eh]; exact jn_some sg_at)
      refine ⟨_, x1, p, rfl, .inl ⟨_, .of hp⟩, _, keyO_run e ek, _, DGet.k hp, ?_⟩
      rcases dlk_val k rx n with ⟨z1, z2⟩ | ⟨d', x', y1, y2, y3⟩
      · rw [z2]
        rw [z1] at w
        exact hQ _ _ (.fz (d := .non) g e rfl w)
      · rw [y2]
        rw [y1] at w
        exact hQ _ _ (.fz g e y3 w)
    · exact w.elim⟩⟩
end
end CL

/-! # CL: comprehensions over pairs -/
namespace CL
open PySem L2
section
variable {T : Tabs} {W : WX} {X : Cx} {P : List Nat} {ρ ρ' : Env} {σ σ' : L2.St} {F F' h h' h1 h2 ha he H H' H'' : Hp} {i j : Nat} {wa wb : WE}
theorem EnvO.forget2 (x : EnvO T F ρ σ h) : ∃ h1 h2, h = jn h1 h2 ∧ Dis h1 h2 ∧ EnvO T F ((ρ.set j .un).set i .un) ((σ.set j none).set i none) h1 := by
  obtain ⟨a1, a2, rfl, d, f⟩ := x.forget (i := j)
  obtain ⟨b1, b2, rfl, d', f'⟩ := (f none).forget (i := i)
  exact ⟨b1, jn b2 a2, by rw [jn_assoc], Dis.both d' d.l', f' none⟩
def pairK (d : D) (k : D → D → Prop) : Prop := match d with
  | .tup [a, b] => k a b
  | _ => False
theorem pairK_of {d : D} {k : D → D → Prop} (h : pairK d k) : ∃ a b, d = .tup [a, b] ∧ k a b := by
  unfold pairK at h
  split at h
  · exact ⟨_, _, rfl, h⟩
  · exact h.elim
def lc2I (i j : Nat) (ds : List D) (ρ1 : Env) (t : Env → (Bool → Env → Prop) → Prop) (w : Env → (D → Env → Prop) → Prop) (done : List D → Env → Prop) : Prop :=
  ∃ I : Nat → List D → Env → Prop, I 0 [] ((ρ1.set j .un).set i .un) ∧ (∀ n d acc ρ2, ds[n]? = some d → I n acc ρ2 → pairK d fun a b => i < ρ2.length ∧ j < ρ2.length ∧ t ((ρ2.set i (.fz a)).set j (.fz b)) (fun b ρ3 => if b = true then w ρ3 (fun d' ρ5 => acc.length < sizeLine ∧ I (n + 1) (acc ++ [d']) ((ρ5.set j .un).set i .un)) else I (n + 1) acc ((ρ3.set j .un).set i .un))) ∧ ∀ acc ρ2, I ds.length acc ρ2 → ρ2[i]? = some .un ∧ ρ2[j]? = some .un ∧ done acc ρ2
def wLc2 (i j : Nat) (it : WI) (t : WT) (w : WE) : WE := fun ρ K Z => it ρ (fun ds ρ1 => (i < ρ1.length ∧ j < ρ1.length) ∧ lc2I i j ds ρ1 (fun ρ KT => t ρ KT (fun _ _ => False)) (fun ρ KD => w ρ (fun c ρ4 => toD ρ4 c KD) (fun _ _ => False)) (fun acc ρ2 => K (.lst acc) ρ2)) Z
theorem wipe2 {α : Type} {l : List α} {i j : Nat} {n a b : α} (ij : i ≠ j) : ((((((l.set j n).set i n).set i a).set j b).set j n).set i n) = (l.set j n).set i n := by
  rw [List.set_set, List.set_set, List.set_comm a n ij, List.set_set, List.set_set]
def LN2 (T : Tabs) (I : Nat → List D → Env → Prop) (σ0 : L2.St) (F1 a H1 : Hp) (D : Addr) (n : Nat) (H' : Hp) : Prop :=
  ∃ ρ2 F2 h2 acc av, Good T F2 (jn h2 (sg D (.lst av))) H' ∧ h2 D = none ∧ Step F1 a H1 F2 (jn h2 (sg D (.lst av))) H' ∧ EnvO T F2 ρ2 σ0 h2 ∧ Reps T F2 acc av ∧ I n acc ρ2
theorem sem_lc2 {ti : TI} {wi : WI} {wt : WT} {w : WE} (ij : i ≠ j) (a : SemI T W ti wi) : SemE T W (tLc ti (gTup T.K 2 (gCons (gName i) (gCons (gName j) gNil))) (cT T W0 wt) (cE T W0 w) [i, j]) (wLc2 i j wi wt w) := fun ρ σ F h H Q K Z g0 e ww hQ hZ => by
  refine a ρ σ F h H _ _ Z g0 e ww (fun J H1 ds ρ1 F1 h1 g1 s1 e1 gs w1 => ?_) hZ
  intro D hD
  obtain ⟨⟨hi1, hj1⟩, I, i0, turn, done⟩ := w1
  have wip : wipe σ [i, j] = (σ.set j none).set i none := rfl
  obtain ⟨a1, a2, a3, a4, af⟩ := e1.forget2 (i := i) (j := j)
  subst a3
  obtain ⟨gd, sd⟩ := g1.drop
  obtain ⟨g2, s2, d2⟩ := gd.alloc (o := .lst []) hD (fun _ z => nomatch z)
  have start : LN2 T I ((σ.set j none).set i none) F1 (jn a1 a2) H1 D 0 (upd H1 D (.lst [])) := ⟨_, F1, a1, [], [], g2, d2.at', sd.trans gd.d s2, af, rfl, i0⟩
  refine ⟨fun n m H' => m = ds.length - n ∧ n ≤ ds.length ∧ LN2 T I ((σ.set j none).set i none) F1 (jn a1 a2) H1 D n H', ⟨_, rfl, Nat.zero_le _, start⟩, ?_⟩
  rintro n m H2 ⟨rfl, hn, ρ2, F2, h2, acc, av, g3, dn, s3, e3, ra, w3⟩
  by_cases hlt : n < ds.length
  · refine .inr ⟨gs.go H2 n (s3.le.trans g3.f) hlt, LN2 T I ((σ.set j none).set i none) F1 (jn a1 a2) H1 D (n + 1),
      fun H' q => ⟨ds.length - (n + 1), by omega, rfl, hlt, q⟩, fun x H' y => ?_⟩
    obtain ⟨rfl, d, ed, rd⟩ := gs.yld H2 n x H' (s3.le.trans g3.f) hlt y
    have w4 := turn n d acc ρ2 ed w3
    have dD : Dis h2 (sg D (HO.lst av)) := Dis.single dn
    obtain ⟨g4, s4⟩ := g3.drop
    obtain ⟨da, db, rfl, hi2, hj2, w4⟩ := pairK_of w4
    · skip
      obtain ⟨q, xs, rfl, hq, rx⟩ := rd
      obtain ⟨va, vb, rfl, r1, r2⟩ := rx.two
      have g4' : Good T F2 (jn h2 emp) H' := by rw [jn_emp]; exact g4
      obtain ⟨h5, g5, s5, e5⟩ := EnvO.store (c := .fz da) (v := va) g4' Dis.empr e3 ⟨r1.mono s3.le, rfl⟩ hi2
      rw [jn_emp] at s5
      have g5' : Good T F2 (jn h5 emp) H' := by rw [jn_emp]; exact g5
      obtain ⟨h6, g6, s6, e6⟩ := EnvO.store (c := .fz db) (v := vb) g5' Dis.empr e5 ⟨r2.mono s3.le, rfl⟩ (by rw [List.length_set]; exact hj2)
      rw [jn_emp] at s6
      have s56 := s5.trans g5.d s6
      refine ⟨q, _, rfl, .of (g4.f _ _ (s3.le _ _ hq)), rfl, va, _, rfl, vb, _, rfl, rfl, ?_, ?_⟩
      · rw [wip]
        exact wipe2 ij
      · rw [wip]
        refine ⟨_, F2, h6, _, _, g6, e6, w4, fun b H3 o => ?_, fun cls d H' ⟨_, _, _, _, _, _, _, _, _, _, z⟩ => z⟩
        obtain ⟨ρ6, F6, h6', g6', s6', e6', w6⟩ := o
        obtain ⟨g7, s7, d7⟩ := frame g3 dD g6' (s56.trans g6.d s6')
        cases b with
        | false =>
          obtain ⟨b1, b2, b3, b4, bf⟩ := e6'.forget2 (i := i) (j := j)
          subst b3
          have g8 : Good T F6 (jn (jn b1 (sg D (.lst av))) b2) H3 := by rw [jn_swap d7.r'.symm]; exact g7
          obtain ⟨g9, s9⟩ := g8.drop
          have s7' : Step F2 (jn h2 (sg D (.lst av))) H' F6 (jn (jn b1 (sg D (.lst av))) b2) H3 := by rw [jn_swap d7.r'.symm]; exact s7
          rw [wipe2 ij] at bf
          exact ⟨_, F6, b1, acc, av, g9, d7.l'.at', (s3.trans g3.d s7').trans g8.d s9, bf, ra.mono s6'.le, w6⟩
        | true =>
          refine ⟨_, F6, h6', _, _, g6', e6', w6, fun v H4 o => ?_, fun cls d H' ⟨_, _, _, _, _, _, _, _, _, _, z⟩ => z⟩
          obtain ⟨c, ρ7, F7, k1, k2, g8, d8, s8, e8, r8, w8⟩ := o
          obtain ⟨d', ρ8, F8, he8, g9, s9, e9, r9, hl, w9⟩ := toD_run g8 d8 e8 r8 w8
          obtain ⟨g10, s10, d10⟩ := frame g7 d7 g9 (s8.trans g8.d s9)
          have at_ : H4 D = some (.lst av) := g10.o _ _ (jn_right d10 sg_at)
          refine ⟨av, at_, by rw [ra.length]; exact hl, ?_⟩
          have g10' := g10
          have s10' := s10
          rw [jn_comm d10] at g10' s10'
          obtain ⟨g11, s11⟩ := g10'.write (o' := .lst (av ++ [v])) d10.at' (fun _ z => nomatch z)
          obtain ⟨b1, b2, b3, b4, bf⟩ := e9.forget2 (i := i) (j := j)
          subst b3
          have dn2 : Dis (sg D (HO.lst (av ++ [v]))) (jn b1 b2) := Dis.single' d10.at'
          rw [← jn_assoc (a := sg D (HO.lst (av ++ [v])))] at g11 s11
          rw [jn_comm dn2.l] at g11 s11
          obtain ⟨g12, s12⟩ := g11.drop
          rw [wipe2 ij] at bf
          exact ⟨_, F8, b1, acc ++ [d'], av ++ [v], g12, d10.l'.at', ((((s3.trans g3.d s7).trans g7.d s10').trans g10'.d s11).trans g11.d s12), bf, (ra.mono (s6'.le.trans (s8.le.trans s9.le))).snoc r9, w9⟩
  · have ei : n = ds.length := by omega
    subst ei
    obtain ⟨un, un2, w4⟩ := done acc ρ2 w3
    have sl : σ.length = ρ1.length := e1.length
    refine .inl ⟨gs.stop H2 (s3.le.trans g3.f), hQ _ _ ⟨.lst acc, ρ2, F2, h2, sg D (.lst av), g3, Dis.single dn, s1.trans g1.d s3, ?_, .inr ⟨D, av, rfl, rfl, ra⟩, w4⟩⟩
    have gi : σ[i]? = some σ[i] := List.getElem?_eq_getElem (by omega)
    have gj : σ[j]? = some σ[j] := List.getElem?_eq_getElem (by omega)
    have z := e3.reslot (s' := σ[i]) un
    rw [List.set_set, set_self (l := σ.set j none) (by rw [List.getElem?_set_ne (fun e => ij e.symm)]; exact gi)] at z
    have z2 := z.reslot (s' := σ[j]) un2
    rw [List.set_set, set_self gj] at z2
    exact z2
theorem se_lc2 (i j : Nat) {x y : Str} {elt iter : Expr} {ifs : List Expr} {scope : Scope} {p p2 p3 pos : Pos} {kt : Nat} {wi : WI} {wt : WT} {w : WE} (hN : X.N.Nodup) (hc : X.calm = true) (hk : X.K = T.K) (a : SI T W X (.Tuple [.Name x p, .Name y p2] kt p3) iter wi) (ok : BlkOk X.N X.env.scope scope [(x, i), (y, j)])
    (ht : ∀ (s : Shared) (H : Hp) (C : Addr) (cl : List (Str × Addr)) (fp : List Addr), STs T (X.blk s H scope (compEnvC scope cl C X.env) fp) ifs wt)
    (he : ∀ (s : Shared) (H : Hp) (C : Addr) (cl : List (Str × Addr)) (fp : List Addr), SE T W0 (X.blk s H scope (compEnvC scope cl C X.env) fp) elt w)
    (hi : X.N[i]? = some x := by rfl) (hj : X.N[j]? = some y := by rfl) (ij : i ≠ j := by decide)
    (hx : ∀ (s : Shared) (H : Hp) (C : Addr) (cl : List (Str × Addr)) (fp : List Addr), Loc (X.blk s H scope (compEnvC scope cl C X.env) fp).env.scope x := by intros; first | exact .inl rfl | exact .inr rfl)
    (hf : ∀ (s : Shared) (H : Hp) (C : Addr) (cl : List (Str × Addr)) (fp : List Addr), (X.blk s H scope (compEnvC scope cl C X.env) fp).fn x = true ∨ (X.blk s H scope (compEnvC scope cl C X.env) fp).env.scope.names.lookup x = some .local := by intros; first | exact .inr rfl | exact .inl rfl)
    (hy : ∀ (s : Shared) (H : Hp) (C : Addr) (cl : List (Str × Addr)) (fp : List Addr), Loc (X.blk s H scope (compEnvC scope cl C X.env) fp).env.scope y := by intros; first | exact .inl rfl | exact .inr rfl)
    (hg : ∀ (s : Shared) (H : Hp) (C : Addr) (cl : List (Str × Addr)) (fp : List Addr), (X.blk s H scope (compEnvC scope cl C X.env) fp).fn y = true ∨ (X.blk s H scope (compEnvC scope cl C X.env) fp).env.scope.names.lookup y = some .local := by intros; first | exact .inr rfl | exact .inl rfl)
    (hs : ∀ x, foldedSetIterable iter X.env x = pure x := by intro _; rfl) :
    SE T W X (.ListComp elt [⟨.Tuple [.Name x p, .Name y p2] kt p3, iter, ifs, 0⟩] scope pos) (wLc2 i j wi wt w) := let ⟨_, a1, a2⟩ := a.ex
  ⟨⟨_, pe_lc (own := [(x, i), (y, j)]) (g := gTup T.K 2 (gCons (gName i) (gCons (gName j) gNil))) hc hN a1 ok (fun s H C cl fp => by
      rw [← hk]
      exact pg_tup (X := X.blk s H scope (compEnvC scope cl C X.env) fp) (n := 2) hc (pgs_cons (pg_name hN hi (hx s H C cl fp) (hf s H C cl fp)) (pgs_cons (pg_name hN hj (hy s H C cl fp) (hg s H C cl fp)) pgs_nil))) (fun s H C cl fp => (ht s H C cl fp).ex) (fun s H C cl fp => (he s H C cl fp).can) hs, sem_lc2 ij a2⟩⟩
end
end CL

/-! # CL: for x in xs, xs a list of one's own that the body leaves -/
namespace CL
open PySem L2
section
variable {T : Tabs} {W : WX} {X : Cx} {P : List Nat} {ρ ρ' : Env} {σ σ' : L2.St} {F F' h h' h1 h2 ha he H H' H'' : Hp} {i j : Nat} {wa wb : WE}
def forOK (i : Nat) (ds : List D) (ρ : Env) (turn : D → Env → (Env → Prop) → Prop) (done : Env → Prop) : Prop :=
  ∃ I : Nat → Env → Prop, I 0 ρ ∧ (∀ n d ρ2, ds[n]? = some d → I n ρ2 → ρ2[i]? = some (.lst ds) ∧ turn d ρ2 (I (n + 1))) ∧ ∀ ρ2, I ds.length ρ2 → ρ2[i]? = some (.lst ds) ∧ done ρ2
def wForO (i : Nat) (g : WG) (body : WS) : WS := fun ρ k => match ρ[i]? with
  | some (.lst ds) => forOK i ds ρ (fun d ρ2 N => g d ρ2 fun ρ3 => body ρ3 { k with nx := N, ct := N, bk := k.nx }) k.nx
  | _ => False
theorem Ag.tl {σ σ' : L2.St} (a : Ag (i :: P) σ σ') : Ag P σ σ' := fun j h => a j (List.mem_cons_of_mem _ h)
theorem AtS.tl {n : Env → Prop} (x : AtS T (i :: P) σ F h H n σ' H') : AtS T P σ F h H n σ' H' := let ⟨a, b, c, d, e, f, g, k⟩ := x; ⟨a, b, c, d, e, f, g.tl, k⟩
theorem sem_forO {g : TG} {tb : TS} {wg : WG} {wb : WS} (b : SemG T (i :: P) g wg) (c : SemS T W (i :: P) tb wb) : SemS T W P (tFor (iSeq T.K (tVar i)) g tb) (wForO i wg wb) := fun ρ σ F h H E k g0 e w cn => by
  unfold wForO at w
  split at w
  · rename_i ds q
    obtain ⟨I, i0, turn, done⟩ := w
    obtain ⟨s, _, _, x1, _, _, x4, _⟩ := e.get q
    rcases x4 with ⟨z, _⟩ | ⟨v, rfl, a, xs0, rfl, _, _⟩
    · cases z
    have at_ : ∀ {ρ2 σ2 F2 h2 H2}, Good T F2 h2 H2 → EnvO T F2 ρ2 σ2 h2 → Ag (i :: P) σ σ2 → ρ2[i]? = some (.lst ds) → ∃ xs, H2 a = some (.lst xs) ∧ Reps T F2 ds xs := fun {ρ2 σ2 F2 h2 H2} g2 e2 ag q2 => by
      have hs : σ2[i]? = some (some (.ref a)) := by rw [ag i List.mem_cons_self]; exact x1
      obtain ⟨p, xs, l2, ep, _, eh, rx, _⟩ := e2.lst q2 hs
      cases ep
      exact ⟨xs, g2.o _ _ (by rw [eh]; exact jn_some sg_at), rx⟩
    obtain ⟨xs, hxs, _⟩ := at_ g0 e .refl q
    refine ⟨_, x1, a, rfl, .inl ⟨⟨xs, .of hxs⟩, ?_⟩⟩
    refine ⟨fun n m σ' H' => m = ds.length - n ∧ n ≤ ds.length ∧ AtS T (i :: P) σ F h H (I n) σ' H', ⟨_, rfl, Nat.zero_le _, ρ, F, h, g0, .refl, e, .refl, i0⟩, ?_⟩
    rintro n m σ2 H2 ⟨rfl, hi, ρ2, F2, h2, g2, s2, e2, x2, w2⟩
    have cn2 := cn.from s2 g2 x2.tl
    by_cases hlt : n < ds.length
    · obtain ⟨q2, tn⟩ := turn n ds[n] ρ2 (List.getElem?_eq_getElem hlt) w2
      obtain ⟨ys, hy, ry⟩ := at_ g2 e2 x2 q2
      refine .inr ⟨⟨ys, ys[n]'(by rw [ry.length]; exact hlt), .of hy, by simp⟩, AtS T (i :: P) σ F h H (I (n + 1)), fun σ' H' q => ⟨ds.length - (n + 1), by omega, rfl, hlt, q⟩, fun x H' y => ?_⟩
      obtain ⟨rfl, yy⟩ := y
      obtain ⟨d, ed, rd⟩ := ry.get' (yy ys (.of hy))
      rw [List.getElem?_eq_getElem hlt] at ed
      cases ed
      refine b x _ ρ2 σ2 F2 h2 H' _ _ g2 e2 rd tn fun σ3 o => ?_
      obtain ⟨ρ3, F3, h3, g3, s3, e3, x3, w3⟩ := o
      have s23 := s2.trans g2.d s3
      exact c ρ3 σ3 F3 h3 H' _ _ g3 e3 w3 ⟨fun σ' H'' q => .pre s23 g3 (x2.trans x3) q, fun σ' H'' q => cn2.nx _ _ (.pre s3 g3 x3.tl q.tl), fun σ' H'' q => .pre s23 g3 (x2.trans x3) q, fun v H'' ⟨c', ρ', σ', F', k1, k2, a1, a2, a3, a4, a5, a6, a7⟩ => (cn2.from s3 g3 x3.tl).rt v H'' ⟨c', ρ', σ', F', k1, k2, a1, a2, a3, a4, a5, a6.tl, a7⟩, fun cls dd σ' H'' ⟨y, ρ', F', k1, k2, a1, a2, a3, a4, a5, a6, a7⟩ => (cn2.from s3 g3 x3.tl).xc cls dd σ' H'' ⟨y, ρ', F', k1, k2, a1, a2, a3, a4, a5, a6.tl, a7⟩⟩
    · have ei : n = ds.length := by omega
      subst ei
      obtain ⟨q2, dn⟩ := done ρ2 w2
      obtain ⟨ys, hy, ry⟩ := at_ g2 e2 x2 q2
      exact .inl ⟨⟨ys, .of hy, by rw [ry.length]; exact Nat.le_refl _⟩, cn2.nx _ _ ⟨ρ2, F2, h2, g2, .refl, e2, .refl, dn⟩⟩
  · exact w.elim
theorem ss_forO (i : Nat) {x : Str} {tg : Expr} {body : List Stmt} {p1 pos : Pos} {wg : WG} {wb : WS} (hp : PassesOwn (model X.prog X.w) X.A X.env X.xe) (hc : X.calm = true) (hk : X.K = T.K) (b : SG T (i :: P) X tg wg) (c : SB T W (i :: P) X body wb)
    (hN : X.N[i]? = some x := by rfl) (hv : Vis X.env.scope x := by first | exact Or.inl rfl | exact Or.inr (Or.inl rfl) | exact Or.inr (Or.inr rfl)) (hd : (x == ("__debug__" : Str)) = false := by decide) (hcd : (x == ("__classdict__" : Str)) = false := by decide) (hs : ∀ y, foldedSetIterable (.Name x p1) X.env y = pure y := by intro _; rfl) :
    SS T W P X (.For tg (.Name x p1) body [] pos) (wForO i wg wb) := let ⟨_, b1, b2⟩ := b.ex; let ⟨_, c1, c2⟩ := c.ex; ⟨⟨_, ps_for hp hc (pi_seq (pe_var hN hv hd hcd)) b1 c1 hs, by rw [hk]; exact sem_forO b2 c2⟩⟩
end
end CL

/-! # CL: [.. for k in d ..], d a dict of one's own that stays -/
namespace CL
open PySem L2
section
variable {T : Tabs} {W : WX} {X : Cx} {P : List Nat} {ρ ρ' : Env} {σ σ' : L2.St} {F F' h h' h1 h2 ha he H H' H'' : Hp} {i j : Nat} {wa wb : WE}
/-- without what stands at p -/
def rem1 (F : Hp) (p : Addr) : Hp := fun b => if b = p then none else F b
theorem rem1_ne {p b : Addr} (h : b ≠ p) : rem1 F p b = F b := by unfold rem1; rw [if_neg h]
theorem rem1_at {p : Addr} : rem1 F p p = none := by unfold rem1; rw [if_pos rfl]
theorem rem1_le {p b : Addr} {o : HO} (h : rem1 F p b = some o) : b ≠ p ∧ F b = some o := by
  unfold rem1 at h
  split at h
  · cases h
  · exact ⟨by assumption, h⟩
section
variable {p : Addr} {od : Obj} {kv : List (Key × V)} (hp : F p = some (.frz od (.dK kv)))
include hp
theorem rem1_of {b : Addr} {o : HO} (e : F b = some o) (n : o ≠ .frz od (.dK kv)) : rem1 F p b = some o := by
  rw [rem1_ne fun z => ?_]
  · exact e
  · subst z
    rw [hp] at e
    exact n (Option.some.inj e).symm
mutual
theorem Rep.r1 : ∀ {d : D} {v : V}, Rep T F d v → Rep T (rem1 F p) d v
  | .non, _, r => r
  | .bl _, _, r => r
  | .int _, _, r => r
  | .str _, _, r => r
  | .tup _, _, ⟨q, xs, e, s, r⟩ => ⟨q, xs, e, rem1_of hp s (fun z => nomatch z), Reps.r1 r⟩
  | .lst _, _, ⟨q, xs, e, s, r⟩ => ⟨q, xs, e, rem1_of hp s (fun z => nomatch z), Reps.r1 r⟩
  | .dct _ _, _, ⟨q, xs, e, s, l, r⟩ => ⟨q, xs, e, rem1_of hp s (fun z => nomatch z), l, Reps.r1 r⟩
  | .obj _ _, _, ⟨q, dx, xs, e, s, l, r⟩ => ⟨q, dx, xs, e, rem1_of hp s (fun z => nomatch z), l, Reps.r1 r⟩
  | .scr _, _, ⟨q, e, s⟩ => ⟨q, e, by
      rcases s with s | s
      · rcases s with s | ⟨o, s⟩
        · exact .inl (.inl (rem1_of hp s (fun z => nomatch z)))
        · exact .inl (.inr ⟨o, rem1_of hp s (fun z => by cases z)⟩)
      · exact .inr s⟩
theorem Reps.r1 : ∀ {ds : List D} {xs : List V}, Reps T F ds xs → Reps T (rem1 F p) ds xs
  | [], _, r => r
  | _ :: _, _, ⟨x, r, e, a, b⟩ => ⟨x, r, e, Rep.r1 a, Reps.r1 b⟩
end
end
mutual
def noDz : Cell → Bool
  | .dfz _ _ => false
  | .obj _ cs => noDzs cs
  | .lsc cs => noDzs cs
  | _ => true
def noDzs : List Cell → Bool
  | [] => true
  | c :: cs => noDz c && noDzs cs
end
section
variable {p : Addr} {od : Obj} {kv : List (Key × V)} (hp : F p = some (.frz od (.dK kv)))
include hp
mutual
theorem CO.r1 : ∀ {c : Cell} {v : V} {h : Hp}, noDz c = true → CO T F c v h → CO T (rem1 F p) c v h
  | .un, _, _, _, r => r
  | .fz _, _, _, _, r => ⟨Rep.r1 hp r.1, r.2⟩
  | .lst _, _, _, _, ⟨q, xs, e, z, r⟩ => ⟨q, xs, e, z, Reps.r1 hp r⟩
  | .dct _ _, _, _, _, ⟨q, xs, e, n, z, r⟩ => ⟨q, xs, e, n, z, Reps.r1 hp r⟩
  | .obj _ _, _, _, n, ⟨q, dx, xs, h1, e, n1, n2, n3, n4, z, r⟩ => ⟨q, dx, xs, h1, e, n1, n2, n3, n4, z, COs.r1 (by simpa [noDz] using n) r⟩
  | .lsc _, _, _, n, ⟨q, xs, h1, e, m, z, r⟩ => ⟨q, xs, h1, e, m, z, COs.r1 (by simpa [noDz] using n) r⟩
  | .ali _, _, _, _, r => r
  | .dfz _ _, _, _, n, _ => by cases n
  | .exo _ _ _ _, _, _, _, ⟨e, z⟩ => ⟨e, z.imp id fun ⟨xs, n, l1, z, r⟩ => ⟨xs, n, l1, z, Reps.r1 hp r⟩⟩
theorem COs.r1 : ∀ {cs : List Cell} {vs : List V} {h : Hp}, noDzs cs = true → COs T F cs vs h → COs T (rem1 F p) cs vs h
  | [], _, _, _, r => r
  | _ :: _, _, _, n, ⟨x, r, h1, h2, e, dd, z, a, b⟩ => by
    simp only [noDzs, Bool.and_eq_true] at n
    exact ⟨x, r, h1, h2, e, dd, z, CO.r1 n.1 a, COs.r1 n.2 b⟩
end
theorem EnvO.r1 : ∀ {ρ : Env} {σ : L2.St} {h : Hp}, noDzs ρ = true → EnvO T F ρ σ h → EnvO T (rem1 F p) ρ σ h
  | [], _, _, _, x => x
  | _ :: _, _, _, n, ⟨s, r, h1, h2, e, dd, z, a, b⟩ => by
    simp only [noDzs, Bool.and_eq_true] at n
    exact ⟨s, r, h1, h2, e, dd, z, a.imp id fun ⟨v, e, z⟩ => ⟨v, e, CO.r1 hp n.1 z⟩, EnvO.r1 n.2 b⟩
end
/-- the dict of slot s is known while e runs, and stays -/
def wLk (s : Nat) (wi : WE) : WE := fun ρ K _ => match ρ[s]? with
  | some (.dct ks ds) => wi (ρ.set s (.dfz ks ds)) (fun c ρ2 => ρ2[s]? = some (.dfz ks ds) ∧ noDzs (ρ2.set s .un) = true ∧ (∃ acc, c = .lst acc) ∧ K c (ρ2.set s (.dct ks ds))) (fun _ _ => False)
  | _ => False
theorem sem_lk {s : Nat} {t : TE} {wi : WE} (a : SemE T W t wi) : SemE T W (tLockE t) (wLk s wi) := fun ρ σ F h H Q K Z g e w hQ _ => by
  unfold wLk at w
  split at w
  · rename_i ks ds q
    obtain ⟨s1, k1, k2, x1, x2, x3, x4, f⟩ := e.get q
    rcases x4 with ⟨z, _⟩ | ⟨v, rfl, p, xs, rfl, hl, rfl, rx⟩
    · cases z
    subst x3
    have hpH : H p = some (.dK (ks.zip xs)) := g.o _ _ (jn_some sg_at)
    have hpF : F p = none := by
      rcases g.d p with z | z
      · exact z
      · rw [jn_some sg_at] at z; cases z
    have hp2 : k2 p = none := by
      rcases x2 p with z | z
      · rw [sg_at] at z; cases z
      · exact z
    refine ⟨p, _, hpH, trivial, fun od => ?_⟩
    have neF : ∀ {b o}, F b = some o → b ≠ p := fun eb z => by rw [z, hpF] at eb; cases eb
    have ne2 : ∀ {b o}, k2 b = some o → b ≠ p := fun eb z => by rw [z, hp2] at eb; cases eb
    have FF : Le F (jn F (sg p (.frz od (.dK (ks.zip xs))))) := Le.left
    have F1p : jn F (sg p (HO.frz od (.dK (ks.zip xs)))) p = some (.frz od (.dK (ks.zip xs))) := by rw [jn_none hpF]; exact sg_at
    have F1n : ∀ {b}, b ≠ p → jn F (sg p (HO.frz od (.dK (ks.zip xs)))) b = F b := fun {b} hb => by
      cases z : F b with
      | some o => rw [jn_some z]
      | none => rw [jn_none z]; exact sg_ne hb
    have h2n : ∀ {b}, b ≠ p → jn (sg p (HO.dK (ks.zip xs))) k2 b = k2 b := fun {b} hb => jn_none (sg_ne hb)
    have g1 : Good T (jn F (sg p (.frz od (.dK (ks.zip xs))))) k2 (upd H p (.frz od (.dK (ks.zip xs)))) := by
      refine ⟨fun b o eb => ?_, fun b o eb => ?_, fun b => ?_, fun b ps => ⟨fun eb => ?_, fun eb => ?_⟩, fun y hy => ?_⟩
      · by_cases hb : b = p
        · subst hb; rw [F1p] at eb; rw [upd_same]; exact eb
        · rw [F1n hb] at eb; rw [upd_ne hb]; exact g.f _ _ eb
      · rw [upd_ne (ne2 eb)]
        exact g.o _ _ (by rw [h2n (ne2 eb)]; exact eb)
      · by_cases hb : b = p
        · subst hb; exact .inr hp2
        · rw [F1n hb]
          rcases g.d b with z | z
          · exact .inl z
          · exact .inr (by rw [h2n hb] at z; exact z)
      · by_cases hb : b = p
        · subst hb; rw [F1p] at eb; cases eb
        · rw [F1n hb] at eb; exact (g.nt b ps).1 eb
      · exact (g.nt b ps).2 (by rw [h2n (ne2 eb)]; exact eb)
      · obtain ⟨a1, a2, ps, a3, a4, a5⟩ := g.tb y hy
        have hb : y.1 ≠ p := fun z => by rw [z, jn_some sg_at] at a2; cases a2
        refine ⟨by rw [F1n hb]; exact a1, by rw [h2n hb] at a2; exact a2, ps, by rw [upd_ne hb]; exact a3, a4, fun pos cv ec => ?_⟩
        obtain ⟨c, b1, b2⟩ := a5 pos cv ec
        exact ⟨c, b1, FF _ _ b2⟩
    have e1 : EnvO T (jn F (sg p (.frz od (.dK (ks.zip xs))))) (ρ.set s (.dfz ks ds)) σ k2 := by
      have z := f _ (.dfz ks ds) (some (.ref p)) emp FF Dis.empl (.inr ⟨_, rfl, p, xs, od, rfl, F1p, hl, rx.mono FF, rfl⟩)
      rw [emp_jn, set_self x1] at z
      exact z
    refine a _ σ _ _ _ _ _ _ g1 e1 w (fun v H' o => ?_) (fun _ _ _ o => by obtain ⟨_, _, _, _, _, _, _, _, _, _, z⟩ := o; exact z.elim)
    obtain ⟨c, ρ2, F2, l1, l2, g2, d2, s2, e2, r2, qs, nd, ⟨acc, rfl⟩, w2⟩ := o
    have F2p : F2 p = some (.frz od (.dK (ks.zip xs))) := s2.le _ _ F1p
    have H2p := g2.f _ _ F2p
    have l12 : l1 p = none ∧ l2 p = none := by
      rcases g2.d p with z | z
      · rw [F2p] at z; cases z
      · exact ⟨jn_nl z, jn_nr z⟩
    refine ⟨H2p, hQ _ _ ?_⟩
    have hl1 : ∀ {b o}, l1 b = some o → b ≠ p := fun eb z => by rw [z, l12.1] at eb; cases eb
    have hl2 : ∀ {b o}, l2 b = some o → b ≠ p := fun eb z => by rw [z, l12.2] at eb; cases eb
    have J : ∀ {b}, b ≠ p → jn (jn (sg p (HO.dK (ks.zip xs))) l1) l2 b = jn l1 l2 b := fun {b} hb => by
      rw [jn_assoc, jn_none (sg_ne hb)]
    have Jp : jn (jn (sg p (HO.dK (ks.zip xs))) l1) l2 p = some (.dK (ks.zip xs)) := jn_some (jn_some sg_at)
    refine ⟨.lst acc, ρ2.set s (.dct ks ds), rem1 F2 p, jn (sg p (.dK (ks.zip xs))) l1, l2, ⟨fun b o eb => ?_, fun b o eb => ?_, fun b => ?_, fun b ps => ⟨fun eb => ?_, fun eb => ?_⟩, fun y hy => ?_⟩, fun b => ?_, ⟨fun b o eb => ?_, fun b o eb hn => ?_, fun b hf hn hz => ?_⟩, ?_, ?_, w2⟩
    · obtain ⟨hb, eb⟩ := rem1_le eb
      rw [upd_ne hb]
      exact g2.f _ _ eb
    · by_cases hb : b = p
      · subst hb; rw [Jp] at eb; rw [upd_same]; exact eb
      · rw [J hb] at eb; rw [upd_ne hb]; exact g2.o _ _ eb
    · by_cases hb : b = p
      · subst hb; exact .inl rem1_at
      · rw [rem1_ne hb, J hb]; exact g2.d b
    · exact (g2.nt b ps).1 (rem1_le eb).2
    · by_cases hb : b = p
      · subst hb; rw [Jp] at eb; cases eb
      · rw [J hb] at eb; exact (g2.nt b ps).2 eb
    · obtain ⟨a1, a2, ps, a3, a4, a5⟩ := g2.tb y hy
      have hb : y.1 ≠ p := fun z => by rw [z, F2p] at a1; cases a1
      refine ⟨by rw [rem1_ne hb]; exact a1, by rw [J hb]; exact a2, ps, by rw [upd_ne hb]; exact a3, a4, fun pos cv ec => ?_⟩
      obtain ⟨c, b1, b2⟩ := a5 pos cv ec
      refine ⟨c, b1, ?_⟩
      by_cases hc : c = p
      · subst hc
        rw [F2p] at b2
        cases b2
      · rw [rem1_ne hc]; exact b2
    · by_cases hb : b = p
      · subst hb; exact .inr l12.2
      · rcases d2 b with z | z
        · exact .inl (jn_nn (sg_ne hb) z)
        · exact .inr z
    · rw [rem1_ne (neF eb)]
      exact s2.le _ _ (FF _ _ eb)
    · have hb : b ≠ p := fun z => by subst z; rw [jn_some sg_at] at hn; cases hn
      have := s2.fr b o (by rw [upd_ne hb]; exact eb) (by rw [h2n hb] at hn; exact hn)
      unfold Kp at this ⊢
      rw [upd_ne hb]
      exact this
    · have hb : b ≠ p := fun z => by subst z; rw [jn_some sg_at] at hn; cases hn
      have := s2.nw b (by rw [F1n hb]; exact hf) (by rw [h2n hb] at hn; exact hn) (by rw [rem1_ne hb, J hb] at hz; exact hz)
      rw [upd_ne hb] at this
      exact this
    · have hi : s < ρ2.length := (List.getElem?_eq_some_iff.mp qs).1
      obtain ⟨s3, m1, m2, y1, y2, y3, y4, f3⟩ := e2.get qs
      rw [x1] at y1
      cases y1
      rcases y4 with ⟨z, _⟩ | ⟨v3, ev, p3, xs3, od3, ep, hp3, hl3, rx3, rfl⟩
      · cases z
      cases ev
      cases ep
      rw [F2p] at hp3
      have ez : ks.zip xs = ks.zip xs3 := by
        have := Option.some.inj hp3
        injection this with _ z
        injection z
      have z0 := f3 F2 .un none emp Le.refl Dis.empl (.inl ⟨rfl, rfl⟩)
      rw [emp_jn] at z0
      rw [emp_jn] at y3
      subst y3
      have z1 := EnvO.r1 F2p nd z0
      obtain ⟨s4, n1, n2, u1, u2, u3, u4, f4⟩ := z1.get (i := s) (c := .un) (List.getElem?_set_self hi)
      have en1 : n1 = emp := by
        rcases u4 with ⟨_, z⟩ | ⟨_, _, z⟩
        · exact z
        · exact z
      subst en1
      rw [emp_jn] at u3
      subst u3
      have z2 := f4 (rem1 F2 p) (.dct ks ds) (some (.ref p)) (sg p (.dK (ks.zip xs))) Le.refl (fun b => by
        by_cases hb : b = p
        · subst hb; exact .inr l12.1
        · exact .inl (sg_ne hb)) (.inr ⟨_, rfl, p, xs3, rfl, hl, by rw [ez], Reps.r1 F2p rx3⟩)
      rw [List.set_set, List.set_set, set_self x1] at z2
      exact z2
    · rcases r2 with ⟨_, z, _⟩ | z
      · cases z
      · exact .inr (CO.r1 F2p rfl z)
  · exact w.elim
/-- the keys -/
def keyD : Key → D
  | .inl i => .int i
  | .inr s => .str s
def wItK (s : Nat) : WI := fun ρ K _ => match ρ[s]? with
  | some (.dfz ks _) => K (ks.map keyD) ρ
  | _ => False
theorem sem_itK (s : Nat) : SemI T W (iKeys (tVar s)) (wItK s) := fun ρ σ F h H R K Z g e w hR _ => by
  unfold wItK at w
  split at w
  · rename_i ks ds q
    obtain ⟨s1, k1, k2, x1, x2, x3, x4, f⟩ := e.get q
    rcases x4 with ⟨z, _⟩ | ⟨v, rfl, p, xs, od, rfl, hp, hl, rx, rfl⟩
    · cases z
    refine ⟨_, x1, p, od, rfl, .inl ⟨_, g.f _ _ hp, hR _ _ _ ρ F h g .refl e ?_ w⟩⟩
    have ll : (ks.zip xs).length = ks.length := by rw [List.length_zip, rx.length]; omega
    refine ⟨fun H i l hi => ⟨l _ _ hp, by rw [ll]; simpa using hi⟩, fun H l => ⟨l _ _ hp, by rw [ll]; simp⟩, fun H i x H' l hi y => ?_⟩
    obtain ⟨rfl, k, v, e1, rfl⟩ := y
    have hk : ks[i]? = some k := by
      have := (List.getElem?_zip_eq_some.mp e1).1
      exact this
    refine ⟨rfl, keyD k, by rw [List.getElem?_map, hk]; rfl, ?_⟩
    cases k <;> rfl
  · exact w.elim
/-- d[k], d known -/
def wDzGet (s j : Nat) : WE := fun ρ K _ => match ρ[s]? with
  | some (.dfz ks ds) => opt (keyO ρ[j]?) fun k => opt (dlk ks ds k) fun d => K (.fz d) ρ
  | _ => False
theorem sem_dzget {s j : Nat} : SemE T W (tDGet (tVar s) (tVar j)) (wDzGet s j) := fun ρ σ F h H Q K Z g e w hQ _ => by
  unfold wDzGet at w
  split at w
  · rename_i ks ds q
    obtain ⟨k, ek, w⟩ := opt_of w
    obtain ⟨d, ed, w⟩ := opt_of w
    obtain ⟨s1, k1, k2, x1, x2, x3, x4, f⟩ := e.get q
    rcases x4 with ⟨z, _⟩ | ⟨v, rfl, p, xs, od, rfl, hp, hl, rx, rfl⟩
    · cases z
    refine ⟨_, x1, _, keyO_run e ek, p, ?_⟩
    rcases dlk_val k rx hl with ⟨z, _⟩ | ⟨d', x', y1, y2, y3⟩
    · rw [z] at ed; cases ed
    · rw [y1] at ed
      cases ed
      refine ⟨x', rfl, ?_, hQ _ _ (.fz g e y3 w)⟩
      rw [← y2]
      exact .inl ⟨_, _, .inr ⟨od, g.f _ _ hp⟩, rfl, rfl⟩
  · exact w.elim
variable {pos p : Pos}
theorem se_dzget (i j : Nat) {x y : Str} {p1 p3 : Pos} (hu : X.A.units + 1 < cLine)
    (hN : X.N[i]? = some x := by rfl) (hv : Vis X.env.scope x := by first | exact Or.inl rfl | exact Or.inr (Or.inl rfl) | exact Or.inr (Or.inr rfl)) (hd : (x == ("__debug__" : Str)) = false := by decide) (hcd : (x == ("__classdict__" : Str)) = false := by decide)
    (hN2 : X.N[j]? = some y := by rfl) (hv2 : Vis X.env.scope y := by first | exact Or.inl rfl | exact Or.inr (Or.inl rfl) | exact Or.inr (Or.inr rfl)) (hd2 : (y == ("__debug__" : Str)) = false := by decide) (hcd2 : (y == ("__classdict__" : Str)) = false := by decide)
    (hs : NoSl (.Name y p3) := by exact fun _ _ => rfl) : SE T W X (.Subscript (.Name x p1) (.Name y p3) pos) (wDzGet i j) :=
  ⟨⟨_, pe_dget hu (pe_var hN hv hd hcd) (pe_var hN2 hv2 hd2 hcd2) hs, sem_dzget⟩⟩
theorem si_keys (s : Nat) {x : Str} {tg : Expr} {p1 : Pos} (hN : X.N[s]? = some x := by rfl) (hv : Vis X.env.scope x := by first | exact Or.inl rfl | exact Or.inr (Or.inl rfl) | exact Or.inr (Or.inr rfl)) (hd : (x == ("__debug__" : Str)) = false := by decide) (hcd : (x == ("__classdict__" : Str)) = false := by decide) :
    SI T W X tg (.Name x p1) (wItK s) := ⟨⟨_, pi_keys (pe_var hN hv hd hcd), sem_itK s⟩⟩
theorem se_lk (s : Nat) {e : Expr} {wi : WE} (a : SE T W X e wi) : SE T W X e (wLk s wi) := let ⟨_, a1, a2⟩ := a.ex; ⟨⟨_, pe_lock a1, sem_lk a2⟩⟩
end
end CL


/-! # CL: texts -/
namespace CL
open PySem L2
section
variable {T : Tabs} {W : WX} {X : Cx} {P : List Nat} {ρ ρ' : Env} {σ σ' : L2.St} {F F' h h' h1 h2 ha he H H' H'' : Hp} {i j : Nat} {wa wb : WE} {a b e o : Expr} {p pos apos : Pos}
def asStrs : List D → Option (List Str)
  | [] => some []
  | .str i :: ds => (asStrs ds).map (i :: ·)
  | _ :: _ => none
theorem strs_map (ns : List Str) : asStrs (ns.map D.str) = some ns := by induction ns with
  | nil => rfl
  | cons a r ih => simp [asStrs, ih]
theorem asStrs_rep : ∀ {ds : List D} {ys : List Str} {xs : List V}, asStrs ds = some ys → Reps T F ds xs → xs = ys.map V.str
  | [], _, _, h, r => by cases h; exact r
  | .str s :: ds, ys, _, h, ⟨x, r, e, a, b⟩ => by
    simp only [asStrs] at h
    cases q : asStrs ds with
    | none => rw [q] at h; cases h
    | some zs =>
      rw [q] at h
      cases h
      subst e
      rw [asStrs_rep q b, show x = V.str s from a]
      rfl
  | .non :: _, _, _, h, _ => by cases h
  | .bl _ :: _, _, _, h, _ => by cases h
  | .int _ :: _, _, _, h, _ => by cases h
  | .tup _ :: _, _, _, h, _ => by cases h
  | .lst _ :: _, _, _, h, _ => by cases h
  | .dct _ _ :: _, _, _, h, _ => by cases h
  | .obj _ _ :: _, _, _, h, _ => by cases h
  | .scr _ :: _, _, _, h, _ => by cases h
theorem reps_strs (F : Hp) : ∀ ys : List Str, Reps T F (ys.map D.str) (ys.map V.str)
  | [] => rfl
  | _ :: r => ⟨_, _, rfl, rfl, reps_strs F r⟩
/-- str(n) -/
def gStr1 : List D → Option D
  | [.int i] => if i.natAbs.log2 < 1920 then some (.str (Str.ofString (toString i))) else none
  | _ => none
theorem se_str1 (hm : X.mg "str" = none) (ha : SE T W X a wa) (hg : Gl X "str" := by rfl) (he : starEach [a] X.env = (false, eval a X.env) :: starEach [] X.env := by rfl) (hpl : (backTo pos (starEach [] X.env)).any (·.1) = false := by rfl) : SE T W X (.Call (.Name "str" p) [a] [] pos) (w1 (fS gStr1) wa) :=
  se_callTy call_str_int (op_fS fun vs ds F H Q d l r e k => by
    unfold gStr1 at e
    split at e
    · split at e
      · rename_i hz
        cases e
        obtain ⟨x, rfl, rx⟩ := svs1 r rfl
        refine ⟨_, ?_, hz, k _ rfl⟩
        rw [show x = V.int _ from rx]
      · cases e
    · cases e) hm (by decide +kernel) (sa_cons ha sa_nil he) hg (by decide) (by decide) he hpl
/-- int(text) -/
def gIntS : List D → Option D
  | [.str a] => if a.length ≤ 640 then (PySem.intText? a).map D.int else none
  | _ => none
theorem se_intS (hm : X.mg "int" = none) (ha : SE T W X a wa) (hg : Gl X "int" := by rfl) (he : starEach [a] X.env = (false, eval a X.env) :: starEach [] X.env := by rfl) (hpl : (backTo pos (starEach [] X.env)).any (·.1) = false := by rfl) : SE T W X (.Call (.Name "int" p) [a] [] pos) (w1 (fS gIntS) wa) :=
  se_callTy call_int_str (op_fS fun vs ds F H Q d l r e k => by
    unfold gIntS at e
    split at e
    · rename_i a
      split at e
      · rename_i hz
        cases q : PySem.intText? a with
        | none => rw [q] at e; cases e
        | some n =>
          rw [q] at e
          cases e
          obtain ⟨x, rfl, rx⟩ := svs1 r rfl
          refine ⟨a, n, ?_, q, hz, k _ rfl⟩
          rw [show x = V.str _ from rx]
      · cases e
    · cases e) hm (by decide +kernel) (sa_cons ha sa_nil he) hg (by decide) (by decide) he hpl
/-- 'z'.join(e) -/
def joinD (z : Str) : D → Option Str
  | .lst ds => (asStrs ds).bind fun ys => if (ys.map (·.length)).sum + ys.length * z.length ≤ 16777216 then some (Txt.join z ys) else none
  | .tup ds => (asStrs ds).bind fun ys => if (ys.map (·.length)).sum + ys.length * z.length ≤ 16777216 then some (Txt.join z ys) else none
  | _ => none
def wJoin (z : Str) (wb : WE) : WE := fun ρ K Z => wb ρ (fun c ρ1 => opt (sv ρ1 c) fun d => opt (joinD z d) fun s => K (.fz (.str s)) ρ1) Z
theorem se_join (z : Str) {j : Nat} {p1 : Pos} (hk : X.K = T.K) (hb : SE T W X e wb) (hs : starEach [e] X.env = [(false, eval e X.env)] := by rfl) (hbase : attributeBase (.Constant (.str z) j p1) "join" X.env (eval (.Constant (.str z) j p1) X.env) = eval (.Constant (.str z) j p1) X.env := by rfl) (hline : (apos.endLine == pos.line) = true := by rfl) :
    SE T W X (.Call (.Attribute (.Constant (.str z) j p1) "join" apos) [e] [] pos) (wJoin z wb) := let ⟨_, b1, b2⟩ := hb.ex
  ⟨⟨_, pe_join pe_str b1 hs hbase hline, fun ρ σ F h H Q K Z g en w hQ hZ => by
    refine ⟨⟨_, rfl⟩, b2 ρ σ F h H _ _ Z g en w (fun v H1 o => ?_) hZ⟩
    obtain ⟨c, ρ1, F1, k1, k2, g1, d1, s1, e1, r1, w1⟩ := o
    obtain ⟨d, ed, w2⟩ := opt_of w1
    obtain ⟨s, es, w3⟩ := opt_of w2
    have sv1 := RO.sv g1 d1 e1 r1 ed
    rw [hk]
    cases d with
    | lst ds =>
      obtain ⟨q, xs, rfl, hp, rx⟩ := sv1
      simp only [joinD] at es
      cases q1 : asStrs ds with
      | none => rw [q1] at es; cases es
      | some ys =>
        rw [q1, Option.bind_some] at es
        split at es
        · rename_i hz
          cases es
          rw [asStrs_rep q1 rx] at hp
          exact ⟨z, q, ys, rfl, rfl, .inl (.of hp), hz, hQ _ _ (.pre s1 g1 (.fzDrop (d := .str (Txt.join z ys)) g1 e1 rfl w3))⟩
        · cases es
    | tup ds =>
      obtain ⟨q, xs, rfl, hp, rx⟩ := sv1
      simp only [joinD] at es
      cases q1 : asStrs ds with
      | none => rw [q1] at es; cases es
      | some ys =>
        rw [q1, Option.bind_some] at es
        split at es
        · rename_i hz
          cases es
          rw [asStrs_rep q1 rx] at hp
          exact ⟨z, q, ys, rfl, rfl, .inr (.of (g1.f _ _ hp)), hz, hQ _ _ (.pre s1 g1 (.fzDrop (d := .str (Txt.join z ys)) g1 e1 rfl w3))⟩
        · cases es
    | _ => cases es⟩⟩
/-- e.split('z') -/
def spD (z : Str) (K : List D → Prop) : D → Prop
  | .str a => (z.length == 0) = false ∧ a.length + 2 ≤ sizeLine ∧ K ((Txt.split a z).map D.str)
  | _ => False
def wSplit (z : Str) (wb : WE) : WE := fun ρ K Z => wb ρ (fun c ρ1 => opt (sv ρ1 c) fun d => spD z (fun ds => K (.lst ds) ρ1) d) Z
theorem se_split (z : Str) {j : Nat} {p1 : Pos} (hb : SE T W X e wb) (hs : starEach [Expr.Constant (.str z) j p1] X.env = [(false, eval (.Constant (.str z) j p1) X.env)] := by rfl) (hbase : attributeBase e "split" X.env (eval e X.env) = eval e X.env := by rfl) (hline : (apos.endLine == pos.line) = true := by rfl) :
    SE T W X (.Call (.Attribute e "split" apos) [.Constant (.str z) j p1] [] pos) (wSplit z wb) := let ⟨_, b1, b2⟩ := hb.ex
  ⟨⟨_, pe_split b1 pe_str hs hbase hline, fun ρ σ F h H Q K Z g en w hQ hZ => by
    refine b2 ρ σ F h H _ _ Z g en w (fun v H1 o => ?_) hZ
    obtain ⟨c, ρ1, F1, k1, k2, g1, d1, s1, e1, r1, w1⟩ := o
    obtain ⟨d, ed, w2⟩ := opt_of w1
    have sv1 := RO.sv g1 d1 e1 r1 ed
    cases d with
    | str a =>
      obtain ⟨h1, h2, w3⟩ := w2
      have ev : v = V.str a := sv1
      subst ev
      refine ⟨⟨_, rfl⟩, a, z, rfl, rfl, h1, h2, fun q hq => hQ _ _ ?_⟩
      obtain ⟨gd, sd⟩ := g1.drop
      obtain ⟨x1, x2, x3⟩ := gd.alloc (o := .lst ((Txt.split a z).map V.str)) hq (fun _ z => nomatch z)
      exact ⟨.lst ((Txt.split a z).map D.str), ρ1, F1, k1, _, x1, x3, (s1.trans g1.d sd).trans gd.d x2, e1, .inr ⟨q, _, rfl, rfl, reps_strs F1 _⟩, w3⟩
    | _ => exact w2.elim⟩⟩
/-- the signs of a text -/
def signsD (x : Str) : List D := x.cps.toList.map fun c => D.str ⟨#[c]⟩
def wItS (w : WE) : WI := fun ρ K Z => w ρ (fun c ρ1 => opt (sv ρ1 c) fun d => match d with
  | .str x => K (signsD x) ρ1
  | _ => False) Z
theorem si_str {tg : Expr} (a : SE T W X e wa) : SI T W X tg e (wItS wa) := let ⟨_, a1, a2⟩ := a.ex
  ⟨⟨_, pi_str a1, fun ρ σ F h H R K Z g en w hR hZ => by
    refine a2 ρ σ F h H _ _ Z g en w (fun v H1 o => ?_) hZ
    obtain ⟨c, ρ1, F1, k1, k2, g1, d1, s1, e1, r1, w1⟩ := o
    obtain ⟨d, ed, w2⟩ := opt_of w1
    have sv1 := RO.sv g1 d1 e1 r1 ed
    cases d with
    | str x =>
      have ev : v = V.str x := sv1
      subst ev
      obtain ⟨gd, sd⟩ := g1.drop
      refine ⟨x, rfl, hR _ _ _ ρ1 F1 k1 gd (s1.trans g1.d sd) e1 ⟨fun H i _ hi => ?_, fun H _ => ?_, fun H i y H' _ hi yy => ?_⟩ w2⟩
      · show i < x.cps.size
        simpa [signsD] using hi
      · show x.cps.size ≤ _
        simp [signsD]
      · obtain ⟨rfl, c, hc, rfl⟩ := yy
        refine ⟨rfl, .str ⟨#[c]⟩, ?_, rfl⟩
        unfold signsD
        rw [List.getElem?_map, Array.getElem?_toList, hc]
        rfl
    | _ => exact w2.elim⟩⟩
def gNoSign : List D → Option D
  | [.str x, .str z] => match x.cps.toList with
    | [c] => some (.bl (!decide (c ∈ z.cps.toList)))
    | _ => none
  | _ => none
theorem cmp_noSign (ha : SE T W X a wa) (hb : SE T W X b wb) (hm : behindInMarks .NotIn b = false := by rfl) : SC T W X (.Compare a [.NotIn] [b] pos) (w2 (fS gNoSign) wa wb) := sc_cmp2 op_notIn_sign (op_fS fun vs ds F H Q d l r e k => by
  unfold gNoSign at e
  split at e
  · rename_i x z
    split at e
    · rename_i c hc
      cases e
      obtain ⟨u, v, rfl, ru, rv⟩ := svs2 r rfl
      refine ⟨c, z, ?_, rv, k _ rfl⟩
      rw [show u = V.str x from ru]
      have : x = ⟨#[c]⟩ := Str.ext' (Array.toList_inj.mp hc)
      rw [this]
    · cases e
  · cases e) ha hb hm
end
end CL

/-! # CL: how readings are shown: lazily, from the head -/
namespace CL
open PySem L2
/-! ### what is not entered -/
inductive Tk {α : Sort u} (k : α) : Type | mk
/-- as opt, br, ..: what comes behind is not entered by simp (without dsimp) -/
def optL {α : Type} (o : Option α) (k : α → Prop) (_ : Tk k) : Prop := opt o k
def br (b : Bool) (x y : Prop) (_ : Tk x) (_ : Tk y) : Prop := if b = true then x else y
theorem br_true (x y : Prop) (t : Tk x) (u : Tk y) : br true x y t u = x := by simp [br]
theorem br_false (x y : Prop) (t : Tk x) (u : Tk y) : br false x y t u = y := by simp [br]
theorem br_intro {b : Bool} {x y : Prop} {t : Tk x} {u : Tk y} (h1 : b = true → x) (h2 : b = false → y) : br b x y t u := by
  cases b
  · rw [br_false]; exact h2 rfl
  · rw [br_true]; exact h1 rfl
theorem br_t {b : Bool} {x y : Prop} {t : Tk x} {u : Tk y} (h : b = true) (h1 : x) : br b x y t u := by subst h; rw [br_true]; exact h1
theorem br_f {b : Bool} {x y : Prop} {t : Tk x} {u : Tk y} (h : b = false) (h1 : y) : br b x y t u := by subst h; rw [br_false]; exact h1
def call (S : FSpec) (cs : List Cell) (k : FOut → Prop) (_ : Tk k) : Prop := ∃ a, S.args a = cs ∧ S.pre a ∧ ∀ o, S.out a o → k o
theorem call_intro {S : FSpec} {cs : List Cell} {k : FOut → Prop} {t : Tk k} (a : S.A) (h1 : S.args a = cs) (h2 : S.pre a) (h3 : ∀ o, S.out a o → k o) : call S cs k t := ⟨a, h1, h2, h3⟩
def forI (ds : List D) (ρ : Env) (turn : D → Env → (Env → Prop) → Prop) (done : Env → Prop) (_ : Tk turn) (_ : Tk done) : Prop :=
  ∃ I : Nat → Env → Prop, I 0 ρ ∧ (∀ n d ρ2, ds[n]? = some d → I n ρ2 → turn d ρ2 (I (n + 1))) ∧ ∀ ρ2, I ds.length ρ2 → done ρ2
theorem forI_intro {ds : List D} {ρ : Env} {turn : D → Env → (Env → Prop) → Prop} {done : Env → Prop} {t : Tk turn} {u : Tk done} (I : Nat → Env → Prop) (h0 : I 0 ρ) (h1 : ∀ n d ρ2, ds[n]? = some d → I n ρ2 → turn d ρ2 (I (n + 1))) (h2 : ∀ ρ2, I ds.length ρ2 → done ρ2) : forI ds ρ turn done t u := ⟨I, h0, h1, h2⟩
def lcI (i : Nat) (ds : List D) (ρ : Env) (t : Env → (Bool → Env → Prop) → Prop) (w : Env → (D → Env → Prop) → Prop) (done : List D → Env → Prop) (_ : Tk t) (_ : Tk w) (_ : Tk done) : Prop :=
  ∃ I : Nat → List D → Env → Prop, I 0 [] (ρ.set i .un) ∧ (∀ n d acc ρ2, ds[n]? = some d → I n acc ρ2 → i < ρ2.length ∧ t (ρ2.set i (.fz d)) (fun b ρ3 => br b (w ρ3 (fun d' ρ5 => acc.length < sizeLine ∧ I (n + 1) (acc ++ [d']) (ρ5.set i .un))) (I (n + 1) acc (ρ3.set i .un)) .mk .mk)) ∧ ∀ acc ρ2, I ds.length acc ρ2 → ρ2[i]? = some .un ∧ done acc ρ2
theorem lcI_intro {i : Nat} {ds : List D} {ρ : Env} {t : Env → (Bool → Env → Prop) → Prop} {w : Env → (D → Env → Prop) → Prop} {done : List D → Env → Prop} {t1 : Tk t} {t2 : Tk w} {t3 : Tk done} (I : Nat → List D → Env → Prop) (h0 : I 0 [] (ρ.set i .un)) (h1 : ∀ n d acc ρ2, ds[n]? = some d → I n acc ρ2 → i < ρ2.length ∧ t (ρ2.set i (.fz d)) (fun b ρ3 => br b (w ρ3 (fun d' ρ5 => acc.length < sizeLine ∧ I (n + 1) (acc ++ [d']) (ρ5.set i .un))) (I (n + 1) acc (ρ3.set i .un)) .mk .mk))
    (h2 : ∀ acc ρ2, I ds.length acc ρ2 → ρ2[i]? = some .un ∧ done acc ρ2) : lcI i ds ρ t w done t1 t2 t3 := ⟨I, h0, h1, h2⟩
def whileI (ρ : Env) (turn : Env → (Env → Prop) → Prop) (_ : Tk turn) : Prop := ∃ I : Nat → Env → Prop, (∃ m, I m ρ) ∧ ∀ m ρ, I m ρ → turn ρ (fun ρ2 => ∃ m', m' < m ∧ I m' ρ2)
theorem whileI_intro {ρ : Env} {turn : Env → (Env → Prop) → Prop} {t : Tk turn} (I : Nat → Env → Prop) (m : Nat) (h0 : I m ρ) (h1 : ∀ m ρ, I m ρ → turn ρ (fun ρ2 => ∃ m', m' < m ∧ I m' ρ2)) : whileI ρ turn t := ⟨I, ⟨m, h0⟩, h1⟩
/-! ### from the head -/
section
variable (ρ : Env) (k : Ks) (K : Cell → Env → Prop) (Z : KX) (a b : WS) (wa wb wc : WE) (wt wu : WT) (i j : Nat) (c : Cell) (KT : Bool → Env → Prop) (KA : List Cell → Env → Prop) (wr wr' : WA)
theorem u_seq : wSeq a b ρ k = a ρ { k with nx := fun ρ' => b ρ' k } := rfl
theorem u_skip : wSkip ρ k = k.nx ρ := rfl
theorem u_expr : wExpr wa ρ k = wa ρ (fun _ ρ' => k.nx ρ') k.xc := rfl
theorem u_if : wIf wt a b ρ k = wt ρ (fun c ρ' => br c (a ρ' k) (b ρ' k) .mk .mk) k.xc := rfl
def retK (k : Ks) (c : Cell) (ρ' : Env) : Prop := match c with
  | .ali j => optL ρ'[j]? (fun c' => k.rt c' (ρ'.set j .un)) .mk
  | c => k.rt c ρ'
theorem u_ret : wRet wa ρ k = wa ρ (retK k) k.xc := rfl
theorem retK_fz (d : D) : retK k (.fz d) ρ = k.rt (.fz d) ρ := rfl
theorem retK_lst (d : List D) : retK k (.lst d) ρ = k.rt (.lst d) ρ := rfl
theorem retK_dct (ks : List Key) (d : List D) : retK k (.dct ks d) ρ = k.rt (.dct ks d) ρ := rfl
theorem retK_obj (n : Nat) (cs : List Cell) : retK k (.obj n cs) ρ = k.rt (.obj n cs) ρ := rfl
theorem retK_lsc (cs : List Cell) : retK k (.lsc cs) ρ = k.rt (.lsc cs) ρ := rfl
theorem retK_ali : retK k (.ali j) ρ = optL ρ[j]? (fun c' => k.rt c' (ρ.set j .un)) .mk := rfl
theorem u_set : wSet i wa ρ k = wa ρ (fun c ρ1 => rest ρ1 c fun c' ρ2 => i < ρ2.length ∧ k.nx (ρ2.set i c')) k.xc := rfl
theorem rest_fz (d : D) : rest ρ (.fz d) K = K (.fz d) ρ := rfl
theorem rest_lst (d : List D) : rest ρ (.lst d) K = K (.lst d) ρ := rfl
theorem rest_dct (ks : List Key) (d : List D) : rest ρ (.dct ks d) K = K (.dct ks d) ρ := rfl
theorem rest_obj (n : Nat) (cs : List Cell) : rest ρ (.obj n cs) K = K (.obj n cs) ρ := rfl
theorem rest_lsc (cs : List Cell) : rest ρ (.lsc cs) K = K (.lsc cs) ρ := rfl
theorem rest_ali : rest ρ (.ali j) K = optL ρ[j]? (fun c' => optL (frz c') (fun d => K (.fz d) (ρ.set j (.fz d))) .mk) .mk := rfl
variable (KD : D → Env → Prop) (KDs : List D → Env → Prop)
theorem toD_fz (d : D) : toD ρ (.fz d) KD = KD d ρ := rfl
theorem toD_lst (d : List D) : toD ρ (.lst d) KD = KD (.lst d) ρ := rfl
theorem toD_dct (ks : List Key) (d : List D) : toD ρ (.dct ks d) KD = KD (.dct ks d) ρ := rfl
theorem toD_obj (n : Nat) (cs : List Cell) : toD ρ (.obj n cs) KD = optL (frz (.obj n cs)) (fun d => KD d ρ) .mk := rfl
theorem toD_lsc (cs : List Cell) : toD ρ (.lsc cs) KD = optL (frz (.lsc cs)) (fun d => KD d ρ) .mk := rfl
theorem toD_ali : toD ρ (.ali j) KD = optL ρ[j]? (fun c' => optL (frz c') (fun d => KD d (ρ.set j (.fz d))) .mk) .mk := rfl
theorem toDs_nil : toDs ρ [] KDs = KDs [] ρ := rfl
theorem toDs_cons (cs : List Cell) : toDs ρ (c :: cs) KDs = toD ρ c fun d ρ1 => toDs ρ1 cs fun ds ρ2 => KDs (d :: ds) ρ2 := rfl
theorem frz_fz (d : D) : frz (.fz d) = some d := rfl
theorem frz_lst (d : List D) : frz (.lst d) = some (.lst d) := rfl
theorem frz_dct (ks : List Key) (d : List D) : frz (.dct ks d) = some (.dct ks d) := rfl
def varK (c : Option Cell) (i : Nat) (K : Cell → Env → Prop) (ρ : Env) (_ : Tk K) : Prop := match c with
  | some (.fz d) => K (.fz d) ρ
  | some (.lst _) => K (.ali i) ρ
  | some (.dct _ _) => K (.ali i) ρ
  | some (.obj _ _) => K (.ali i) ρ
  | some (.lsc _) => K (.ali i) ρ
  | _ => False
theorem u_var : wVar i ρ K Z = varK ρ[i]? i K ρ .mk := rfl
theorem varK_fz (d : D) : varK (some (.fz d)) i K ρ .mk = K (.fz d) ρ := rfl
theorem varK_lst (d : List D) : varK (some (.lst d)) i K ρ .mk = K (.ali i) ρ := rfl
theorem varK_dct (ks : List Key) (d : List D) : varK (some (.dct ks d)) i K ρ .mk = K (.ali i) ρ := rfl
theorem varK_obj (n : Nat) (cs : List Cell) : varK (some (.obj n cs)) i K ρ .mk = K (.ali i) ρ := rfl
theorem varK_lsc (cs : List Cell) : varK (some (.lsc cs)) i K ρ .mk = K (.ali i) ρ := rfl
theorem u_C (d : D) : wC d ρ K Z = K (.fz d) ρ := rfl
theorem u_nil : wNil ρ KA Z = KA [] ρ := rfl
theorem u_cons : wCons wa wr ρ KA Z = wa ρ (fun c ρ1 => wr ρ1 (fun cs ρ2 => KA (c :: cs) ρ2) Z) Z := rfl
theorem u_F (f : WF) : wF f wr ρ K Z = wr ρ (fun cs ρ' => f cs ρ' K) Z := rfl
theorem u_fS (g : List D → Option D) (cs : List Cell) : fS g cs ρ K = optL (svs ρ cs) (fun ds => optL (g ds) (fun d => K (.fz d) ρ) .mk) .mk := rfl
theorem u_fL (g : List D → Option (List D)) (cs : List Cell) : fL g cs ρ K = optL (svs ρ cs) (fun ds => optL (g ds) (fun d => K (.lst d) ρ) .mk) .mk := rfl
theorem opt_some {α : Type} (a : α) (k : α → Prop) (t : Tk k) : optL (some a) k t = k a := rfl
theorem opt_if {α : Type} (c : Prop) [Decidable c] (a : α) (k : α → Prop) (t : Tk k) : optL (if c then some a else none) k t = (c ∧ k a) := by
  by_cases h : c <;> simp [optL, opt, h]
theorem seq_cut {a b : WS} {ρ : Env} {k : Ks} (R : Env → Prop) (h1 : ∀ N : Env → Prop, (∀ ρ', R ρ' → N ρ') → a ρ { k with nx := N }) (h2 : ∀ ρ', R ρ' → b ρ' k) : wSeq a b ρ k := h1 _ h2
theorem svs_nil : svs ρ [] = some [] := rfl
theorem svs_cons (cs : List Cell) : svs ρ (c :: cs) = (sv ρ c).bind fun d => (svs ρ cs).map (d :: ·) := by
  simp only [svs]
  cases sv ρ c <;> cases svs ρ cs <;> rfl
def svO : Option Cell → Option D
  | some (.lst ds) => some (.lst ds)
  | some (.dct ks ds) => some (.dct ks ds)
  | some (.fz d) => some d
  | _ => none
theorem sv_fz (d : D) : sv ρ (.fz d) = some d := rfl
theorem sv_lst (d : List D) : sv ρ (.lst d) = some (.lst d) := rfl
theorem sv_dct (ks : List Key) (d : List D) : sv ρ (.dct ks d) = some (.dct ks d) := rfl
theorem sv_ali : sv ρ (.ali i) = svO ρ[i]? := rfl
theorem svO_lst (d : List D) : svO (some (.lst d)) = some (.lst d) := rfl
theorem svO_fz (d : D) : svO (some (.fz d)) = some d := rfl
theorem svO_dct (ks : List Key) (d : List D) : svO (some (.dct ks d)) = some (.dct ks d) := rfl
theorem get0 (c : Cell) (ρ : Env) : (c :: ρ)[0]? = some c := rfl
theorem getS (c : Cell) (ρ : Env) (i : Nat) : (c :: ρ)[i + 1]? = ρ[i]? := rfl
/-! tests -/
theorem u_B : wB wa ρ KT Z = wa ρ (fun c ρ' => match c with
  | .fz (.bl b) => KT b ρ'
  | _ => False) Z := rfl
theorem u_and : wAnd wt wu ρ KT Z = wt ρ (fun b ρ1 => br b (wu ρ1 KT Z) (KT false ρ1) .mk .mk) Z := rfl
theorem u_or : wOr wt wu ρ KT Z = wt ρ (fun b ρ1 => br b (KT true ρ1) (wu ρ1 KT Z) .mk .mk) Z := rfl
theorem u_not : wNot wt ρ KT Z = wt ρ (fun b ρ1 => KT (!b) ρ1) Z := rfl
theorem u_yes : wYes ρ KT Z = KT true ρ := rfl
theorem u_andV : wAndV wa wb ρ K Z = wa ρ (fun c ρ1 => match c with
  | .fz (.bl b) => br b (wb ρ1 K Z) (K (.fz (.bl false)) ρ1) .mk .mk
  | _ => False) Z := rfl
theorem u_orV : wOrV wa wb ρ K Z = wa ρ (fun c ρ1 => match c with
  | .fz (.bl b) => br b (K (.fz (.bl true)) ρ1) (wb ρ1 K Z) .mk .mk
  | _ => False) Z := rfl
theorem u_notV : wNotV wa ρ K Z = wa ρ (fun c ρ1 => match c with
  | .fz (.bl b) => K (.fz (.bl (!b))) ρ1
  | _ => False) Z := rfl
theorem u_ifE : wIfE wt wa wb ρ K Z = wt ρ (fun c ρ1 => br c (wa ρ1 K Z) (wb ρ1 K Z) .mk .mk) Z := rfl
theorem u_chain (p q : Int → Int → Bool) : wChain p q wa wb wc ρ K Z = wa ρ (fun c1 ρ1 => wb ρ1 (fun c2 ρ2 => match c1, c2 with
  | .fz (.int i), .fz (.int j) => br (p i j) (wc ρ2 (fun c3 ρ3 => match c3 with
      | .fz (.int k) => K (.fz (.bl (q j k))) ρ3
      | _ => False) Z) (K (.fz (.bl false)) ρ2) .mk .mk
  | _, _ => False) Z) Z := rfl
/-! displays, operators -/
theorem u_tup : wTup wr ρ K Z = wr ρ (fun cs ρ1 => cs.length ≤ 1000 ∧ toDs ρ1 cs fun ds ρ2 => K (.fz (.tup ds)) ρ2) Z := rfl
theorem u_lst : wLst wr ρ K Z = wr ρ (fun cs ρ1 => cs.length ≤ 1000 ∧ toDs ρ1 cs fun ds ρ2 => K (.lst ds) ρ2) Z := rfl
theorem u_lsc : wLsc wr ρ K Z = wr ρ (fun cs ρ1 => cs.length ≤ 1000 ∧ (∀ c ∈ cs, ∀ i, c ≠ .ali i) ∧ K (.lsc cs) ρ1) Z := rfl
theorem u_dict0 : wDict0 ρ K Z = K (.dct [] []) ρ := rfl
def addK (ρ : Env) (K : Cell → Env → Prop) : List D → Prop
  | [.int i, .int j] => K (.fz (.int (i + j))) ρ
  | [.str a, .str b] => a.length + b.length ≤ sizeLine ∧ K (.fz (.str (a ++ b))) ρ
  | [.lst a, .lst b] => a.length + b.length ≤ sizeLine ∧ K (.lst (a ++ b)) ρ
  | [.tup a, .tup b] => a.length + b.length ≤ sizeLine ∧ K (.fz (.tup (a ++ b))) ρ
  | _ => False
theorem u_fAdd (cs : List Cell) : fAdd cs ρ K = optL (svs ρ cs) (addK ρ K) .mk := rfl
theorem add_int (x y : Int) : addK ρ K [.int x, .int y] = K (.fz (.int (x + y))) ρ := rfl
theorem add_str (x y : Str) : addK ρ K [.str x, .str y] = (x.length + y.length ≤ sizeLine ∧ K (.fz (.str (x ++ y))) ρ) := rfl
theorem add_lst (x y : List D) : addK ρ K [.lst x, .lst y] = (x.length + y.length ≤ sizeLine ∧ K (.lst (x ++ y)) ρ) := rfl
theorem add_tup (x y : List D) : addK ρ K [.tup x, .tup y] = (x.length + y.length ≤ sizeLine ∧ K (.fz (.tup (x ++ y))) ρ) := rfl
def mulK (ρ : Env) (K : Cell → Env → Prop) : List D → Prop
  | [.int i, .int j] => (inW i || inW j) = true ∧ K (.fz (.int (i * j))) ρ
  | [.lst a, .int k] => k < 2 ^ 63 ∧ a.length * k.toNat ≤ sizeLine ∧ -(2 ^ 63) ≤ k ∧ K (.lst (List.replicate k.toNat a).flatten) ρ
  | _ => False
theorem u_fMul (cs : List Cell) : fMul cs ρ K = optL (svs ρ cs) (mulK ρ K) .mk := rfl
theorem mul_int (x y : Int) : mulK ρ K [.int x, .int y] = ((inW x || inW y) = true ∧ K (.fz (.int (x * y))) ρ) := rfl
theorem mul_lst (x : List D) (y : Int) : mulK ρ K [.lst x, .int y] = (y < 2 ^ 63 ∧ x.length * y.toNat ≤ sizeLine ∧ -(2 ^ 63) ≤ y ∧ K (.lst (List.replicate y.toNat x).flatten) ρ) := rfl
def ixK (ρ : Env) (K : Cell → Env → Prop) : List D → Prop
  | [.lst es, .int i] => optL (atI es i) (fun d => K (.fz d) ρ) .mk
  | [.tup es, .int i] => optL (atI es i) (fun d => K (.fz d) ρ) .mk
  | [.scr ns, .int i] => optL (atI ns i) (fun n => K (.fz (.int n)) ρ) .mk
  | [.str z, .int i] => z.length ≤ sizeLine ∧ optL (atI z.cps.toList i) (fun c => K (.fz (.str ⟨#[c]⟩)) ρ) .mk
  | _ => False
theorem u_fIx (cs : List Cell) : fIx cs ρ K = optL (svs ρ cs) (ixK ρ K) .mk := rfl
theorem ix_lst (es : List D) (x : Int) : ixK ρ K [.lst es, .int x] = optL (atI es x) (fun d => K (.fz d) ρ) .mk := rfl
theorem ix_tup (es : List D) (x : Int) : ixK ρ K [.tup es, .int x] = optL (atI es x) (fun d => K (.fz d) ρ) .mk := rfl
theorem ix_scr (es : List Int) (x : Int) : ixK ρ K [.scr es, .int x] = optL (atI es x) (fun n => K (.fz (.int n)) ρ) .mk := rfl
theorem ix_str (z : Str) (x : Int) : ixK ρ K [.str z, .int x] = (z.length ≤ sizeLine ∧ optL (atI z.cps.toList x) (fun c => K (.fz (.str ⟨#[c]⟩)) ρ) .mk) := rfl
def tupK (ρ : Env) (K : Cell → Env → Prop) : List D → Prop
  | [.lst es] => K (.fz (.tup es)) ρ
  | [.tup es] => K (.fz (.tup es)) ρ
  | _ => False
theorem u_fTuple (cs : List Cell) : fTuple cs ρ K = optL (svs ρ cs) (tupK ρ K) .mk := rfl
theorem tup_lst (es : List D) : tupK ρ K [.lst es] = K (.fz (.tup es)) ρ := rfl
theorem tup_tup (es : List D) : tupK ρ K [.tup es] = K (.fz (.tup es)) ρ := rfl
def dgetK (ρ : Env) (K : Cell → Env → Prop) : List D → Prop
  | [.dct ks es, k] => optL (kd k) (fun k' => optL (dlk ks es k') (fun d => K (.fz d) ρ) .mk) .mk
  | _ => False
theorem u_fDGet (cs : List Cell) : fDGet cs ρ K = optL (svs ρ cs) (dgetK ρ K) .mk := rfl
theorem dget_dct (ks : List Key) (es : List D) (x : D) : dgetK ρ K [.dct ks es, x] = optL (kd x) (fun k' => optL (dlk ks es k') (fun d => K (.fz d) ρ) .mk) .mk := rfl
theorem u_sl (wl wh : WO) : wSl wa wl wh ρ K Z = wa ρ (fun c ρ1 => wl ρ1 (fun lo ρ2 => wh ρ2 (fun hi ρ3 => optL (sv ρ3 c) (fun d => fSl (some d) lo hi ρ3 K) .mk) Z) Z) Z := by
  unfold wSl
  congr 1
  funext c ρ1
  congr 1
  funext lo ρ2
  congr 1
  funext hi ρ3
  cases sv ρ3 c <;> rfl
theorem sl_lst (ds : List D) (lo hi : Option Int) : fSl (some (.lst ds)) lo hi ρ K = K (.lst (cutA ds lo hi)) ρ := rfl
theorem sl_tup (ds : List D) (lo hi : Option Int) : fSl (some (.tup ds)) lo hi ρ K = K (.fz (.tup (cutA ds lo hi))) ρ := rfl
theorem sl_str (z : Str) (lo hi : Option Int) : fSl (some (.str z)) lo hi ρ K = (z.length ≤ sizeLine ∧ K (.fz (.str (cutS z lo hi))) ρ) := rfl
variable (KO : Option Int → Env → Prop)
theorem u_no : wNo ρ KO Z = KO none ρ := rfl
theorem u_so : wSo wa ρ KO Z = wa ρ (fun c ρ' => match c with
  | .fz (.int i) => KO (some i) ρ'
  | _ => False) Z := rfl
/-! stores, methods -/
def lputK (i : Nat) (d : D) (s : Ks) (ck : Cell) (ρ3 : Env) : Prop := match ck with
  | .fz (.int z) => match ρ3[i]? with
    | some (.lst ds) => optL (ixN ds.length z) (fun j => s.nx (ρ3.set i (.lst (ds.set j d)))) .mk
    | _ => False
  | _ => False
theorem u_lput : wLPut i wa wb ρ k = wa ρ (fun c ρ1 => toD ρ1 c fun d ρ2 => ownL ρ2 i = true ∧ wb ρ2 (lputK i d k) k.xc) k.xc := rfl
def lputO (i : Nat) (d : D) (s : Ks) (z : Int) (ρ3 : Env) (o : Option Cell) (_ : Tk s) : Prop := match o with
  | some (.lst ds) => optL (ixN ds.length z) (fun j => s.nx (ρ3.set i (.lst (ds.set j d)))) .mk
  | _ => False
theorem lputK_int (d : D) (z : Int) : lputK i d k (.fz (.int z)) ρ = lputO i d k z ρ ρ[i]? .mk := rfl
theorem lputO_lst (d : D) (z : Int) (ds : List D) : lputO i d k z ρ (some (.lst ds)) .mk = optL (ixN ds.length z) (fun j => k.nx (ρ.set i (.lst (ds.set j d)))) .mk := rfl
def dputO (i : Nat) (d : D) (s : Ks) (key : Key) (ρ3 : Env) (o : Option Cell) (_ : Tk s) : Prop := match o with
  | some (.dct ks ds) => ks.length < sizeLine ∧ s.nx (ρ3.set i (.dct (dputK ks key) (dputD ks ds key d)))
  | _ => False
def dputC (i : Nat) (d : D) (s : Ks) (ck : Cell) (ρ3 : Env) : Prop := match ck with
  | .fz dk => optL (kd dk) (fun key => dputO i d s key ρ3 ρ3[i]? .mk) .mk
  | _ => False
theorem u_dput : wDPut i wa wb ρ k = wa ρ (fun c ρ1 => toD ρ1 c fun d ρ2 => ownD ρ2 i = true ∧ wb ρ2 (dputC i d k) k.xc) k.xc := rfl
theorem dputC_fz (d dk : D) : dputC i d k (.fz dk) ρ = optL (kd dk) (fun key => dputO i d k key ρ ρ[i]? .mk) .mk := rfl
theorem dputO_dct (d : D) (key : Key) (ks : List Key) (ds : List D) : dputO i d k key ρ (some (.dct ks ds)) .mk = (ks.length < sizeLine ∧ k.nx (ρ.set i (.dct (dputK ks key) (dputD ks ds key d)))) := rfl
def isL : Option Cell → Bool
  | some (.lst _) => true
  | _ => false
def isDc : Option Cell → Bool
  | some (.dct _ _) => true
  | _ => false
def isLv : Option Cell → Bool
  | some .un => false
  | some (.ali _) => false
  | none => false
  | _ => true
theorem ownL_isL : ownL ρ i = isL ρ[i]? := rfl
theorem ownD_isDc : ownD ρ i = isDc ρ[i]? := rfl
theorem live_isLv : live ρ i = isLv ρ[i]? := rfl
theorem isL_lst (d : List D) : isL (some (.lst d)) = true := rfl
theorem isDc_dct (ks : List Key) (d : List D) : isDc (some (.dct ks d)) = true := rfl
theorem isLv_lst (d : List D) : isLv (some (.lst d)) = true := rfl
theorem isLv_fz (d : D) : isLv (some (.fz d)) = true := rfl
theorem isLv_obj (n : Nat) (d : List Cell) : isLv (some (.obj n d)) = true := rfl
theorem isLv_dct (ks : List Key) (d : List D) : isLv (some (.dct ks d)) = true := rfl
theorem isLv_lsc (d : List Cell) : isLv (some (.lsc d)) = true := rfl
variable (f : List D → List Cell → Env → (Cell → Env → Prop) → Prop)
def methO (f : List D → List Cell → Env → (Cell → Env → Prop) → Prop) (cs : List Cell) (ρ1 : Env) (K : Cell → Env → Prop) (o : Option Cell) (_ : Tk K) : Prop := match o with
  | some (.lst ds) => f ds cs ρ1 K
  | _ => False
theorem u_meth : wMeth i wr f ρ K Z = (ownL ρ i = true ∧ wr ρ (fun cs ρ1 => methO f cs ρ1 K ρ1[i]? .mk) Z) := rfl
theorem methO_lst (cs : List Cell) (ds : List D) : methO f cs ρ K (some (.lst ds)) .mk = f ds cs ρ K := rfl
def appO (i : Nat) (d : D) (ρ' : Env) (K : Cell → Env → Prop) (o : Option Cell) (_ : Tk K) : Prop := match o with
  | some (.lst ds') => ds'.length < sizeLine ∧ K (.fz .non) (ρ'.set i (.lst (ds' ++ [d])))
  | _ => False
theorem u_app (ds : List D) : mApp i ds [c] ρ K = (ds.length < sizeLine ∧ toD ρ c fun d ρ' => appO i d ρ' K ρ'[i]? .mk) := rfl
theorem appO_lst (d : D) (ds : List D) : appO i d ρ K (some (.lst ds)) .mk = (ds.length < sizeLine ∧ K (.fz .non) (ρ.set i (.lst (ds ++ [d])))) := rfl
theorem u_pop (ds : List D) : mPop i ds [] ρ K = optL ds[ds.length - 1]? (fun d => K (.fz d) (ρ.set i (.lst ds.dropLast))) .mk := rfl
theorem u_popAt (ds : List D) (z : Int) : mPopAt i ds [.fz (.int z)] ρ K = (ds.length ≤ sizeLine ∧ optL (ixN ds.length z) (fun j => optL ds[j]? (fun d => K (.fz d) (ρ.set i (.lst (ds.eraseIdx j)))) .mk) .mk) := rfl
theorem u_clear (ds : List D) : mClear i ds [] ρ K = K (.fz .non) (ρ.set i (.lst [])) := rfl
/-! targets -/
variable (wg : WG) (wgs : WGs) (n : Nat)
theorem u_asg : wAsg wa wg ρ k = wa ρ (fun c ρ1 => toD ρ1 c fun d ρ2 => wg d ρ2 k.nx) k.xc := rfl
theorem u_gN (d : D) (N : Env → Prop) : gN i d ρ N = (i < ρ.length ∧ N (ρ.set i (.fz d))) := rfl
theorem u_gTu (ds : List D) (N : Env → Prop) : gTu n wgs (.tup ds) ρ N = (ds.length = n ∧ wgs ds ρ N) := rfl
theorem u_gsN (N : Env → Prop) : gsN [] ρ N = N ρ := by simp [gsN]
theorem u_gsC (d : D) (ds : List D) (N : Env → Prop) : gsC wg wgs (d :: ds) ρ N = wg d ρ fun ρ' => wgs ds ρ' N := rfl
/-! objects -/
def fldV (K : Cell → Env → Prop) (ρ1 : Env) (c' : Cell) : Prop := match c' with
  | .fz d => K (.fz d) ρ1
  | _ => False
theorem fldV_fz (d : D) : fldV K ρ (.fz d) = K (.fz d) ρ := rfl
def fldO (kc : Nat) (fl : Str) (K : Cell → Env → Prop) (ρ1 : Env) (o : Option Cell) (_ : Tk K) : Prop := match o with
  | some (.obj k cs) => k = kc ∧ optL (fget kc fl cs) (fldV K ρ1) .mk
  | _ => False
theorem fldO_obj (kc kk : Nat) (fl : Str) (cs : List Cell) : fldO kc fl K ρ (some (.obj kk cs)) .mk = (kk = kc ∧ optL (fget kc fl cs) (fldV K ρ) .mk) := rfl
def fldK (kc : Nat) (fl : Str) (K : Cell → Env → Prop) (c : Cell) (ρ1 : Env) : Prop := match c with
  | .fz (.obj k ds) => k = kc ∧ optL (fget kc fl ds) (fun d => K (.fz d) ρ1) .mk
  | .ali i => fldO kc fl K ρ1 ρ1[i]? .mk
  | _ => False
theorem fldK_fz (kc kk : Nat) (fl : Str) (ds : List D) : fldK kc fl K (.fz (.obj kk ds)) ρ = (kk = kc ∧ optL (fget kc fl ds) (fun d => K (.fz d) ρ) .mk) := rfl
theorem fldK_ali (kc : Nat) (fl : Str) : fldK kc fl K (.ali i) ρ = fldO kc fl K ρ ρ[i]? .mk := rfl
theorem u_fld (kc : Nat) (fl : Str) : wFld kc fl wa ρ K Z = wa ρ (fldK kc fl K) Z := rfl
variable (S : FSpec)
def outV (K : Cell → Env → Prop) (Z : KX) (ρ : Env) : FOut → Prop
  | .ok c _ => K c ρ
  | .ex x _ => Z x ρ
theorem u_callV : wCallV S wr ρ K Z = wr ρ (fun cs ρ1 => toDs ρ1 cs fun ds ρ2 => call S (ds.map .fz) (outV K Z ρ2) .mk) Z := rfl
theorem outV_ok (c c0 : Cell) : outV K Z ρ (.ok c c0) = K c ρ := rfl
theorem outV_ex (x : Exc) (c0 : Cell) : outV K Z ρ (.ex x c0) = Z x ρ := rfl
def outB (i : Nat) (K : Cell → Env → Prop) (Z : KX) (ρ : Env) : FOut → Prop
  | .ok r c0 => K r (ρ.set i c0)
  | .ex x c0 => Z x (ρ.set i c0)
theorem u_callB : wCallB S i wr ρ K Z = (live ρ i = true ∧ wr ρ (fun cs ρ1 => toDs ρ1 cs fun ds ρ2 => optL ρ2[i]? (fun c => call S (c :: ds.map .fz) (outB i K Z ρ2) .mk) .mk) Z) := rfl
theorem outB_ok (c c0 : Cell) : outB i K Z ρ (.ok c c0) = K c (ρ.set i c0) := rfl
theorem outB_ex (x : Exc) (c0 : Cell) : outB i K Z ρ (.ex x c0) = Z x (ρ.set i c0) := rfl
def outM (K : Cell → Env → Prop) (ρ : Env) : FOut → Prop
  | .ok r _ => K r ρ
  | .ex _ _ => False
theorem outM_ok (c c0 : Cell) : outM K ρ (.ok c c0) = K c ρ := rfl
def methD (kc : Nat) (S : FSpec) (wr : WA) (ρ2 : Env) (K : Cell → Env → Prop) (Z : KX) (d : D) : Prop := match d with
  | .obj k ds => k = kc ∧ wr ρ2 (fun cs ρ3 => toDs ρ3 cs fun es ρ4 => call S (.fz (.obj kc ds) :: es.map .fz) (outM K ρ4) .mk) Z
  | _ => False
theorem u_methV (kc : Nat) : wMethV kc S wa wr ρ K Z = wa ρ (fun c ρ1 => toD ρ1 c fun d ρ2 => methD kc S wr ρ2 K Z d) Z := rfl
theorem methD_obj (kc kk : Nat) (ds : List D) : methD kc S wr ρ K Z (.obj kk ds) = (kk = kc ∧ wr ρ (fun cs ρ3 => toDs ρ3 cs fun es ρ4 => call S (.fz (.obj kc ds) :: es.map .fz) (outM K ρ4) .mk) Z) := rfl
def outI (K : Cell → Env → Prop) (ρ : Env) : FOut → Prop
  | .ok r c0 => r = .fz .non ∧ K c0 ρ
  | .ex _ _ => False
theorem outI_ok (c c0 : Cell) : outI K ρ (.ok c c0) = (c = .fz .non ∧ K c0 ρ) := rfl
theorem u_make (kc : Nat) : wMake kc S wr ρ K Z = wr ρ (fun cs ρ1 => toDs ρ1 cs fun ds ρ2 => call S (.obj kc [] :: ds.map .fz) (outI K ρ2) .mk) Z := rfl
def fsetO (i kc j : Nat) (k : Ks) (c' : Cell) (ρ2 : Env) (o : Option Cell) (_ : Tk k) : Prop := match o with
  | some (.obj kk cs) => kk = kc ∧ ((j < cs.length ∧ k.nx (ρ2.set i (.obj kc (cs.set j c')))) ∨ (j = cs.length ∧ k.nx (ρ2.set i (.obj kc (cs ++ [c'])))))
  | _ => False
theorem u_fset (kc : Nat) : wFSet i kc j wa ρ k = wa ρ (fun c ρ1 => rest ρ1 c fun c' ρ2 => fsetO i kc j k c' ρ2 ρ2[i]? .mk) k.xc := rfl
theorem fset_0 (kc : Nat) (c' : Cell) : fsetO i kc 0 k c' ρ (some (.obj kc [])) .mk = k.nx (ρ.set i (.obj kc [c'])) := by simp [fsetO]
theorem fset_1 (kc : Nat) (c' c1 : Cell) : fsetO i kc 1 k c' ρ (some (.obj kc [c1])) .mk = k.nx (ρ.set i (.obj kc [c1, c'])) := by simp [fsetO]
theorem fset_2 (kc : Nat) (c' c1 c2 : Cell) : fsetO i kc 2 k c' ρ (some (.obj kc [c1, c2])) .mk = k.nx (ρ.set i (.obj kc [c1, c2, c'])) := by simp [fsetO]
theorem fset_3 (kc : Nat) (c' c1 c2 c3 : Cell) : fsetO i kc 3 k c' ρ (some (.obj kc [c1, c2, c3])) .mk = k.nx (ρ.set i (.obj kc [c1, c2, c3, c'])) := by simp [fsetO]
theorem fset_4 (kc : Nat) (c' c1 c2 c3 c4 : Cell) : fsetO i kc 4 k c' ρ (some (.obj kc [c1, c2, c3, c4])) .mk = k.nx (ρ.set i (.obj kc [c1, c2, c3, c4, c'])) := by simp [fsetO]
theorem fset_5 (kc : Nat) (c' c1 c2 c3 c4 c5 : Cell) : fsetO i kc 5 k c' ρ (some (.obj kc [c1, c2, c3, c4, c5])) .mk = k.nx (ρ.set i (.obj kc [c1, c2, c3, c4, c5, c'])) := by simp [fsetO]
theorem xc_endK (a : S.A) (x : Exc) : (endK S a).xc x ρ = S.out a (.ex x (aft S ρ)) := rfl
theorem rt_endK (a : S.A) (c : Cell) : (endK S a).rt c ρ = S.out a (.ok c (aft S ρ)) := rfl
theorem nx_endK (a : S.A) : (endK S a).nx ρ = S.out a (.ok (.fz .non) (aft S ρ)) := rfl
/-! loops -/
variable (wi : WI)
theorem u_for : wFor wi wg a ρ k = wi ρ (fun ds ρ1 => forI ds ρ1 (fun d ρ2 N => wg d ρ2 fun ρ3 => a ρ3 { k with nx := N, ct := N, bk := k.nx }) k.nx .mk .mk) k.xc := rfl
theorem u_while : wWhile wt a ρ k = whileI ρ (fun ρ N => wt ρ (fun b ρ1 => br b (a ρ1 { k with nx := N, ct := N, bk := k.nx }) (k.nx ρ1) .mk .mk) k.xc) .mk := rfl
theorem u_lc : wLc i wi wt wa ρ K Z = wi ρ (fun ds ρ1 => i < ρ1.length ∧ lcI i ds ρ1 (fun ρ KT => wt ρ KT (fun _ _ => False)) (fun ρ KD => wa ρ (fun c ρ4 => toD ρ4 c KD) (fun _ _ => False)) (fun acc ρ2 => K (.lst acc) ρ2) .mk .mk .mk) Z := rfl
variable (KI : List D → Env → Prop)
def itL (ρ : Env) (K : List D → Env → Prop) : D → Prop
  | .lst ds => K ds ρ
  | .tup ds => K ds ρ
  | .scr ns => K (ns.map D.int) ρ
  | _ => False
theorem u_itL : wItL wa ρ KI Z = wa ρ (fun c ρ1 => toD ρ1 c fun d ρ2 => itL ρ2 KI d) Z := by
  unfold wItL
  congr 1
theorem itL_lst (ds : List D) : itL ρ KI (.lst ds) = KI ds ρ := rfl
theorem itL_tup (ds : List D) : itL ρ KI (.tup ds) = KI ds ρ := rfl
theorem itL_scr (ns : List Int) : itL ρ KI (.scr ns) = KI (ns.map D.int) ρ := rfl
def itU (ρ : Env) (K : List D → Env → Prop) : D → Prop
  | .tup ds => K ds ρ
  | _ => False
theorem u_itU : wItU wa ρ KI Z = wa ρ (fun c ρ1 => toD ρ1 c fun d ρ2 => itU ρ2 KI d) Z := by
  unfold wItU
  congr 1
theorem itU_tup (ds : List D) : itU ρ KI (.tup ds) = KI ds ρ := rfl
theorem u_rg1 : wRg1 wr ρ KI Z = wr ρ (fun cs ρ1 => match cs with
  | [.fz (.int j)] => small62 j = true ∧ KI (rangeD 0 j.toNat) ρ1
  | _ => False) Z := rfl
theorem u_rg2 : wRg2 wr ρ KI Z = wr ρ (fun cs ρ1 => match cs with
  | [.fz (.int i), .fz (.int j)] => (small62 i && small62 j) = true ∧ KI (rangeD i (j - i).toNat) ρ1
  | _ => False) Z := rfl
theorem u_lrg1 : wLRg1 wa ρ K Z = wa ρ (fun c ρ1 => match c with
  | .fz (.int n) => (0 ≤ n ∧ n ≤ 1000000) ∧ K (.lst (rangeD 0 n.toNat)) ρ1
  | _ => False) Z := rfl
theorem u_lrg2 : wLRg2 wa wb ρ K Z = wa ρ (fun c ρ1 => wb ρ1 (fun d ρ2 => match c, d with
  | .fz (.int i), .fz (.int j) => (0 ≤ i ∧ j ≤ 1000000 ∧ i ≤ 1000000 ∧ 0 ≤ j) ∧ K (.lst (rangeD i (j - i).toNat)) ρ2
  | _, _ => False) Z) Z := rfl
end
/-! ### items of short lists -/
section
variable {α : Type} (a b c d e f : α) (r : List α)
theorem atI_0 : atI (a :: r) 0 = some a := by
  unfold atI ixN
  simp
theorem atI_1 : atI (a :: b :: r) 1 = some b := by
  unfold atI ixN
  rw [if_pos (by decide), if_pos (by simp only [List.length_cons]; omega)]
  rfl
theorem atI_2 : atI (a :: b :: c :: r) 2 = some c := by
  unfold atI ixN
  rw [if_pos (by decide), if_pos (by simp only [List.length_cons]; omega)]
  rfl
theorem atI_3 : atI (a :: b :: c :: d :: r) 3 = some d := by
  unfold atI ixN
  rw [if_pos (by decide), if_pos (by simp only [List.length_cons]; omega)]
  rfl
theorem atI_nat {xs : List α} {i : Int} {x : α} (h0 : 0 ≤ i) (h : xs[i.toNat]? = some x) : atI xs i = some x := by
  have := (List.getElem?_eq_some_iff.mp h).1
  unfold atI ixN
  rw [if_pos h0, if_pos (by omega)]
  exact h
theorem ixN_nat {n : Nat} {i : Int} (h0 : 0 ≤ i) (h : i < n) : ixN n i = some i.toNat := by
  unfold ixN
  rw [if_pos h0, if_pos h]
end
end CL
namespace CL
open PySem L2
/-! ### what operators give -/
section
variable (i j : Int) (ds es : List D) (ns ms : List Int) (b c : Bool) (z y : Str)
theorem gSub_int : gSubI [.int i, .int j] = some (.int (i - j)) := rfl
theorem gDiv_int : gDiv [.int i, .int j] = if (decide (0 < j) && decide (j < 1073741824)) = true then some (.int (i / j)) else none := rfl
theorem gMod_int : gMod [.int i, .int j] = if decide (0 < j) = true then some (.int (i % j)) else none := rfl
theorem gPow_int : gPow [.int i, .int j] = if (decide (0 ≤ j) && decide (j ≤ 1000000) && decide (i.natAbs < 2 ^ 64)) = true then some (.int (i ^ j.toNat)) else none := rfl
theorem gPow_18 : gPow [.int 10, .int 18] = some (.int 1000000000000000000) := by
  have e : (10 : Int) ^ (18 : Int).toNat = 1000000000000000000 := by decide +kernel
  have h : (decide ((0 : Int) ≤ 18) && decide ((18 : Int) ≤ 1000000) && decide ((10 : Int).natAbs < 2 ^ 64)) = true := by decide +kernel
  rw [gPow_int, if_pos h, e]
theorem gPow_6 : gPow [.int 10, .int 6] = some (.int 1000000) := by
  have e : (10 : Int) ^ (6 : Int).toNat = 1000000 := by decide +kernel
  have h : (decide ((0 : Int) ≤ 6) && decide ((6 : Int) ≤ 1000000) && decide ((10 : Int).natAbs < 2 ^ 64)) = true := by decide +kernel
  rw [gPow_int, if_pos h, e]
theorem gLt_int : gLt [.int i, .int j] = some (.bl (decide (i < j))) := rfl
theorem gLe_int : gLe [.int i, .int j] = some (.bl (decide (i ≤ j))) := rfl
theorem gGt_int : gGt [.int i, .int j] = some (.bl (decide (j < i))) := rfl
theorem gGe_int : gGe [.int i, .int j] = some (.bl (decide (j ≤ i))) := rfl
theorem gMax_int : gMax2 [.int i, .int j] = some (.int (if j > i then j else i)) := rfl
theorem gMin_int : gMin2 [.int i, .int j] = some (.int (if j < i then j else i)) := rfl
theorem gNeg_int : gNeg [.int i] = some (.int (-i)) := rfl
theorem gInt_int : gInt [.int i] = some (.int i) := rfl
theorem gInt_bl : gInt [.bl b] = some (.int (if b then 1 else 0)) := rfl
theorem gLen_lst : gLen [.lst ds] = some (.int ds.length) := rfl
theorem gLen_tup : gLen [.tup ds] = some (.int ds.length) := rfl
theorem gLen_scr : gLen [.scr ns] = some (.int ns.length) := rfl
theorem gLen_dct (ks : List Key) : gLen [.dct ks ds] = some (.int ks.length) := rfl
theorem gLen_str : gLen [.str z] = if z.length ≤ sizeLine then some (.int z.length) else none := rfl
theorem gList_lst : gList [.lst ds] = some ds := rfl
theorem gList_tup : gList [.tup ds] = some ds := rfl
theorem gRev_lst : gRev [.lst ds] = some ds.reverse := rfl
theorem gSorted_li : gSorted [.lst (ns.map D.int)] = some ((isrt ns).map D.int) := by simp [gSorted, ints_map]
theorem gSorted_ti : gSorted [.tup (ns.map D.int)] = some ((isrt ns).map D.int) := by simp [gSorted, ints_map]
theorem gSum_li : gSum [.lst (ns.map D.int)] = some (.int ns.sum) := by simp [gSum, ints_map]
theorem gIsN_non : gIsN [.non, .non] = some (.bl true) := rfl
theorem gIsN_int : gIsN [.int i, .non] = some (.bl false) := rfl
theorem gNotN_non : gNotN [.non, .non] = some (.bl false) := rfl
theorem gNotN_int : gNotN [.int i, .non] = some (.bl true) := rfl
theorem lays_ints (n : Nat) : lays (ns.map D.int) n = true := by induction ns with
  | nil => rfl
  | cons a r ih => simp [lays, lay, ih]
theorem lay_LI (n : Nat) : lay (.lst (ns.map D.int)) (n + 1) = true := by simp [lay, lays_ints]
theorem lay_TI (n : Nat) : lay (.tup (ns.map D.int)) (n + 1) = true := by simp [lay, lays_ints]
theorem eqD_int : eqD (.int i) (.int j) = decide (i = j) := by
  unfold eqD pd PyData.eqv
  by_cases h : i = j <;> simp [h]
theorem eqD_bl : eqD (.bl b) (.bl c) = decide (b = c) := by
  cases b <;> cases c <;> rfl
theorem eqvL_ints : PyData.eqvAll (pds (ns.map D.int)) (pds (ms.map D.int)) = decide (ns = ms) := by
  induction ns generalizing ms with
  | nil => cases ms <;> simp [pds, PyData.eqvAll]
  | cons a r ih =>
    cases ms with
    | nil => simp [pds, PyData.eqvAll]
    | cons c s =>
      have h := eqD_int a c
      unfold eqD at h
      simp only [List.map_cons, pds, PyData.eqvAll, ih, h]
      by_cases h1 : a = c <;> by_cases h2 : r = s <;> simp [h1, h2]
theorem eqD_LI : eqD (.lst (ns.map D.int)) (.lst (ms.map D.int)) = decide (ns = ms) := by
  unfold eqD
  simp only [pd, PyData.eqv, eqvL_ints]
theorem eqD_TI : eqD (.tup (ns.map D.int)) (.tup (ms.map D.int)) = decide (ns = ms) := by
  unfold eqD
  simp only [pd, PyData.eqv, eqvL_ints]
theorem gEq_int : gEq [.int i, .int j] = some (.bl (decide (i = j))) := by simp [gEq, lay, eqD_int]
theorem gNe_int : gNe [.int i, .int j] = some (.bl (decide (i ≠ j))) := by simp [gNe, lay, eqD_int]
theorem gEq_bl : gEq [.bl b, .bl c] = some (.bl (decide (b = c))) := by simp [gEq, lay, eqD_bl]
theorem gNe_bl : gNe [.bl b, .bl c] = some (.bl (decide (b ≠ c))) := by simp [gNe, lay, eqD_bl]
theorem gEq_LI : gEq [.lst (ns.map D.int), .lst (ms.map D.int)] = some (.bl (decide (ns = ms))) := by simp [gEq, lay_LI, eqD_LI]
theorem gNe_LI : gNe [.lst (ns.map D.int), .lst (ms.map D.int)] = some (.bl (decide (ns ≠ ms))) := by simp [gNe, lay_LI, eqD_LI]
theorem gNe_nil (h : lays ds 59 = true) : gNe [.lst ds, .lst []] = some (.bl (decide (ds ≠ []))) := by
  have : lay (.lst ds) 60 = true := by simpa [lay] using h
  cases ds with
  | nil => simp [gNe, this, eqD, pd, pds, PyData.eqv, PyData.eqvAll, lay, lays]
  | cons a r => simp only [gNe, this]; simp [eqD, pd, pds, PyData.eqv, PyData.eqvAll, lay, lays]
theorem gEq_nil (h : lays ds 59 = true) : gEq [.lst ds, .lst []] = some (.bl (decide (ds = []))) := by
  have : lay (.lst ds) 60 = true := by simpa [lay] using h
  cases ds with
  | nil => simp [gEq, this, eqD, pd, pds, PyData.eqv, PyData.eqvAll, lay, lays]
  | cons a r => simp only [gEq, this]; simp [eqD, pd, pds, PyData.eqv, PyData.eqvAll, lay, lays]
theorem gNe_LI0 : gNe [.lst (ns.map D.int), .lst []] = some (.bl (decide (ns ≠ []))) := by
  rw [gNe_nil _ (lays_ints _ _)]
  cases ns <;> simp
theorem flat_ints : (ns.map D.int).all flatD = true := by induction ns with
  | nil => rfl
  | cons a r ih => simp [flatD, ih]
theorem any_ints : ((ns.map D.int).any fun z => eqD z (.int i)) = decide (i ∈ ns) := by induction ns with
  | nil => rfl
  | cons a r ih =>
    rw [List.map_cons, List.any_cons, ih, eqD_int]
    by_cases h1 : a = i
    · simp [h1]
    · have : ¬ i = a := fun e => h1 e.symm
      simp [h1, this]
theorem gIn_int : gInU false [.int i, .lst (ns.map D.int)] = some (.bl (decide (i ∈ ns))) := by
  have h := flat_ints ns
  have h2 := any_ints i ns
  show (if (flatD (.int i) && (ns.map D.int).all flatD) = true then some (D.bl _) else none) = _
  rw [h, h2]
  simp [flatD]
theorem gNotIn_int : gInU true [.int i, .lst (ns.map D.int)] = some (.bl (decide (i ∉ ns))) := by
  have h := flat_ints ns
  have h2 := any_ints i ns
  show (if (flatD (.int i) && (ns.map D.int).all flatD) = true then some (D.bl _) else none) = _
  rw [h, h2]
  simp [flatD]
theorem ixN_c0 {α : Type} (a : α) (r : List α) : ixN (a :: r).length 0 = some 0 := by
  rw [ixN_nat (by decide) (by simp only [List.length_cons]; omega)]; rfl
theorem ixN_c1 {α : Type} (a b : α) (r : List α) : ixN (a :: b :: r).length 1 = some 1 := by
  rw [ixN_nat (by decide) (by simp only [List.length_cons]; omega)]; rfl
theorem ixN_c2 {α : Type} (a b c : α) (r : List α) : ixN (a :: b :: c :: r).length 2 = some 2 := by
  rw [ixN_nat (by decide) (by simp only [List.length_cons]; omega)]; rfl
theorem ixN_c3 {α : Type} (a b c d : α) (r : List α) : ixN (a :: b :: c :: d :: r).length 3 = some 3 := by
  rw [ixN_nat (by decide) (by simp only [List.length_cons]; omega)]; rfl
theorem small62_of (h : -(2 ^ 62) ≤ i) (h2 : i < 2 ^ 62) : small62 i = true := by
  simp only [small62, Bool.and_eq_true, decide_eq_true_eq]
  exact ⟨h, h2⟩
theorem rangeD_eq (n : Nat) : rangeD 0 n = ((List.range n).map fun k : Nat => (k : Int)).map D.int := by
  simp [rangeD]
theorem inW_lit (h : (decide (-(2 ^ 64) < j) && decide (j < 2 ^ 64)) = true) : (inW i || inW j) = true := by
  unfold inW
  rw [h]
  simp
end
theorem frz_net (a b c : List D) : frz (.obj 0 [.lst a, .lst b, .lst c]) = some (.obj 0 [.lst a, .lst b, .lst c]) := rfl
theorem fget_needs {α : Type} (a b c : α) : fget 0 "needs" [a, b, c] = some a := rfl
theorem fget_roots {α : Type} (a b c : α) : fget 0 "roots" [a, b, c] = some b := rfl
theorem fget_wires {α : Type} (a b c : α) : fget 0 "wires" [a, b, c] = some c := rfl
theorem frz_obj3 (c : Nat) (a b d : List D) (h : (fldN c).length = 3 := by rfl) : frz (.obj c [.lst a, .lst b, .lst d]) = some (.obj c [.lst a, .lst b, .lst d]) := by simp [frz, frzs, h]
theorem fget_net1 {α : Type} (a b c : α) : fget 1 "net" [a, b, c] = some a := rfl
theorem fget_kept {α : Type} (a b c : α) : fget 1 "kept" [a, b, c] = some b := rfl
theorem fget_used {α : Type} (a b c : α) : fget 1 "used" [a, b, c] = some c := rfl
theorem fget_net2 {α : Type} (a b c d e f : α) : fget 2 "net" [a, b, c, d, e, f] = some a := rfl
theorem fget_begin {α : Type} (a b c d e f : α) : fget 2 "begin" [a, b, c, d, e, f] = some b := rfl
theorem fget_dark {α : Type} (a b c d e f : α) : fget 2 "dark" [a, b, c, d, e, f] = some c := rfl
theorem fget_first {α : Type} (a b c d e f : α) : fget 2 "first" [a, b, c, d, e, f] = some d := rfl
theorem fget_far {α : Type} (a b c d e f : α) : fget 2 "far" [a, b, c, d, e, f] = some e := rfl
theorem fget_by {α : Type} (a b c d e f : α) : fget 2 "by" [a, b, c, d, e, f] = some f := rfl
theorem fget_net3 {α : Type} (a b c : α) : fget 3 "net" [a, b, c] = some a := rfl
theorem fget_state {α : Type} (a b c : α) : fget 3 "state" [a, b, c] = some b := rfl
theorem fget_told {α : Type} (a b c : α) : fget 3 "told" [a, b, c] = some c := rfl
/-- 0, 1, .., n - 1 -/
def upto (n : Nat) : List Int := (List.range n).map fun k : Nat => (k : Int)
theorem rangeD_upto (n : Nat) : rangeD 0 n = (upto n).map D.int := rangeD_eq n
@[simp] theorem upto_length (n : Nat) : (upto n).length = n := by simp [upto]
theorem mem_upto {n : Nat} {x : Int} : x ∈ upto n ↔ 0 ≤ x ∧ x < n := by
  unfold upto
  simp only [List.mem_map, List.mem_range]
  constructor
  · rintro ⟨a, h, rfl⟩; omega
  · rintro ⟨h1, h2⟩
    exact ⟨x.toNat, by omega, by omega⟩
theorem upto_get {n k : Nat} (h : k < n) : (upto n)[k]? = some (k : Int) := by simp [upto, h]
theorem gIs_non (y : BT)  : gIs y [.non] = some (.bl (isB y .non)) := rfl
theorem isB_int_non  : isB .int .non = false := rfl
theorem isB_bool_non  : isB .bool .non = false := rfl
theorem isB_str_non  : isB .str .non = false := rfl
theorem isB_list_non  : isB .list .non = false := rfl
theorem isB_tuple_non  : isB .tuple .non = false := rfl
theorem isB_dict_non  : isB .dict .non = false := rfl
theorem gIs_bl (y : BT) (b : Bool) : gIs y [.bl b] = some (.bl (isB y (.bl b))) := rfl
theorem isB_int_bl (b : Bool) : isB .int (.bl b) = true := rfl
theorem isB_bool_bl (b : Bool) : isB .bool (.bl b) = true := rfl
theorem isB_str_bl (b : Bool) : isB .str (.bl b) = false := rfl
theorem isB_list_bl (b : Bool) : isB .list (.bl b) = false := rfl
theorem isB_tuple_bl (b : Bool) : isB .tuple (.bl b) = false := rfl
theorem isB_dict_bl (b : Bool) : isB .dict (.bl b) = false := rfl
theorem gIs_int (y : BT) (i : Int) : gIs y [.int i] = some (.bl (isB y (.int i))) := rfl
theorem isB_int_int (i : Int) : isB .int (.int i) = true := rfl
theorem isB_bool_int (i : Int) : isB .bool (.int i) = false := rfl
theorem isB_str_int (i : Int) : isB .str (.int i) = false := rfl
theorem isB_list_int (i : Int) : isB .list (.int i) = false := rfl
theorem isB_tuple_int (i : Int) : isB .tuple (.int i) = false := rfl
theorem isB_dict_int (i : Int) : isB .dict (.int i) = false := rfl
theorem gIs_str (y : BT) (z : Str) : gIs y [.str z] = some (.bl (isB y (.str z))) := rfl
theorem isB_int_str (z : Str) : isB .int (.str z) = false := rfl
theorem isB_bool_str (z : Str) : isB .bool (.str z) = false := rfl
theorem isB_str_str (z : Str) : isB .str (.str z) = true := rfl
theorem isB_list_str (z : Str) : isB .list (.str z) = false := rfl
theorem isB_tuple_str (z : Str) : isB .tuple (.str z) = false := rfl
theorem isB_dict_str (z : Str) : isB .dict (.str z) = false := rfl
theorem gIs_tup (y : BT) (ds : List D) : gIs y [.tup ds] = some (.bl (isB y (.tup ds))) := rfl
theorem isB_int_tup (ds : List D) : isB .int (.tup ds) = false := rfl
theorem isB_bool_tup (ds : List D) : isB .bool (.tup ds) = false := rfl
theorem isB_str_tup (ds : List D) : isB .str (.tup ds) = false := rfl
theorem isB_list_tup (ds : List D) : isB .list (.tup ds) = false := rfl
theorem isB_tuple_tup (ds : List D) : isB .tuple (.tup ds) = true := rfl
theorem isB_dict_tup (ds : List D) : isB .dict (.tup ds) = false := rfl
theorem gIs_lst (y : BT) (ds : List D) : gIs y [.lst ds] = some (.bl (isB y (.lst ds))) := rfl
theorem isB_int_lst (ds : List D) : isB .int (.lst ds) = false := rfl
theorem isB_bool_lst (ds : List D) : isB .bool (.lst ds) = false := rfl
theorem isB_str_lst (ds : List D) : isB .str (.lst ds) = false := rfl
theorem isB_list_lst (ds : List D) : isB .list (.lst ds) = true := rfl
theorem isB_tuple_lst (ds : List D) : isB .tuple (.lst ds) = false := rfl
theorem isB_dict_lst (ds : List D) : isB .dict (.lst ds) = false := rfl
theorem gIs_dct (y : BT) (ks : List Key) (ds : List D) : gIs y [.dct ks ds] = some (.bl (isB y (.dct ks ds))) := rfl
theorem isB_int_dct (ks : List Key) (ds : List D) : isB .int (.dct ks ds) = false := rfl
theorem isB_bool_dct (ks : List Key) (ds : List D) : isB .bool (.dct ks ds) = false := rfl
theorem isB_str_dct (ks : List Key) (ds : List D) : isB .str (.dct ks ds) = false := rfl
theorem isB_list_dct (ks : List Key) (ds : List D) : isB .list (.dct ks ds) = false := rfl
theorem isB_tuple_dct (ks : List Key) (ds : List D) : isB .tuple (.dct ks ds) = false := rfl
theorem isB_dict_dct (ks : List Key) (ds : List D) : isB .dict (.dct ks ds) = true := rfl
theorem gNe_tt : gNe [.bl true, .bl true] = some (.bl false) := rfl
theorem gNe_ff : gNe [.bl false, .bl false] = some (.bl false) := rfl
theorem gNe_tf : gNe [.bl true, .bl false] = some (.bl true) := rfl
theorem gNe_ft : gNe [.bl false, .bl true] = some (.bl true) := rfl
theorem gEq_tt : gEq [.bl true, .bl true] = some (.bl true) := rfl
theorem gEq_ff : gEq [.bl false, .bl false] = some (.bl true) := rfl
theorem gIsN_lst (ds : List D) : gIsN [.lst ds, .non] = some (.bl false) := rfl
theorem gNotN_lst (ds : List D) : gNotN [.lst ds, .non] = some (.bl true) := rfl
theorem gIsN_tup (ds : List D) : gIsN [.tup ds, .non] = some (.bl false) := rfl
theorem gNotN_tup (ds : List D) : gNotN [.tup ds, .non] = some (.bl true) := rfl
theorem gIsN_str (z : Str) : gIsN [.str z, .non] = some (.bl false) := rfl
theorem gNotN_str (z : Str) : gNotN [.str z, .non] = some (.bl true) := rfl
theorem gIsN_bl (b : Bool) : gIsN [.bl b, .non] = some (.bl false) := rfl
theorem gNotN_bl (b : Bool) : gNotN [.bl b, .non] = some (.bl true) := rfl
theorem gIsN_dct (ks : List Key) (ds : List D) : gIsN [.dct ks ds, .non] = some (.bl false) := rfl
theorem gNotN_dct (ks : List Key) (ds : List D) : gNotN [.dct ks ds, .non] = some (.bl true) := rfl
theorem gNe_selfI (i : Int) : gNe [.int i, .int i] = some (.bl false) := by simp [gNe_int]
theorem gEq_selfI (i : Int) : gEq [.int i, .int i] = some (.bl true) := by simp [gEq_int]
/-! ### dice -/
structure Dc where
  s : List Int
  i : Int
  m : Int
  r : Int
def Dc.c (d : Dc) : Cell := .lst [.scr d.s, .int d.i, .int d.m, .int d.r]
abbrev Dc.ok (d : Dc) : Prop := 0 ≤ d.i
theorem rest_Dc (d : Dc) (ρ : Env) (K : Cell → Env → Prop) : rest ρ d.c K = K d.c ρ := rfl
theorem isLv_Dc (d : Dc) : isLv (some d.c) = true := rfl
/-! ### more readings -/
section
variable (ρ : Env) (k : Ks) (K : Cell → Env → Prop) (Z : KX) (a b : WS) (wa wb wc : WE) (i j : Nat) (c ca : Cell) (wr : WA) (S : FSpec) (cs : List Cell) (ds es : List D) (d e : D) (kc kk : Nat)
def outL (K : Cell → Env → Prop) (Z : KX) (ρ : Env) : FOut → Prop
  | .ok c _ => noLC c = true ∧ K c ρ
  | .ex x _ => noLs x.ds = true ∧ Z x ρ
theorem u_callL : wCallL S wr ρ K Z = wr ρ (fun cs ρ1 => optL (svs ρ1 cs) (fun ds => call S (ds.map .fz) (outL K Z ρ1) .mk) .mk) Z := rfl
theorem outL_ok (c c0 : Cell) : outL K Z ρ (.ok c c0) = (noLC c = true ∧ K c ρ) := rfl
theorem outL_ex (x : Exc) (c0 : Cell) : outL K Z ρ (.ex x c0) = (noLs x.ds = true ∧ Z x ρ) := rfl
def outML (K : Cell → Env → Prop) (ρ : Env) : FOut → Prop
  | .ok c _ => noLC c = true ∧ K c ρ
  | .ex _ _ => False
theorem outML_ok (c c0 : Cell) : outML K ρ (.ok c c0) = (noLC c = true ∧ K c ρ) := rfl
def methLD (kc : Nat) (S : FSpec) (wr : WA) (ρ2 : Env) (K : Cell → Env → Prop) (Z : KX) (d : D) : Prop := match d with
  | .obj k ds => k = kc ∧ wr ρ2 (fun cs ρ3 => optL (svs ρ3 cs) (fun es => call S (.fz (.obj kc ds) :: es.map .fz) (outML K ρ3) .mk) .mk) Z
  | _ => False
theorem u_methL : wMethL kc S wa wr ρ K Z = wa ρ (fun c ρ1 => toD ρ1 c fun d ρ2 => methLD kc S wr ρ2 K Z d) Z := rfl
theorem methLD_obj : methLD kc S wr ρ K Z (.obj kk ds) = (kk = kc ∧ wr ρ (fun cs ρ3 => optL (svs ρ3 cs) (fun es => call S (.fz (.obj kc ds) :: es.map .fz) (outML K ρ3) .mk) .mk) Z) := rfl
def b1D (S : FSpec) (K : Cell → Env → Prop) (Z : KX) (ca : Cell) (ds : List D) (ρ2 : Env) : Prop := match ds with
  | d :: ds => match ca with
    | .ali i => optL ρ2[i]? (fun c => call S (.fz d :: c :: ds.map .fz) (outB i K Z ρ2) .mk) .mk
    | .fz e => call S (.fz d :: .fz e :: ds.map .fz) (outV K Z ρ2) .mk
    | _ => False
  | [] => False
theorem b1K_eq : b1K S K Z ca ρ ds = b1D S K Z ca ds ρ := by
  cases ds with
  | nil => rfl
  | cons d ds => cases ca <;> rfl
theorem u_callB1 : wCallB1 S wr ρ K Z = wr ρ (b1A S K Z) Z := rfl
theorem b1A_two : b1A S K Z (c :: ca :: cs) ρ = toDs ρ (c :: cs) fun ds ρ2 => b1D S K Z ca ds ρ2 := by
  show (toDs ρ (c :: cs) fun ds ρ2 => b1K S K Z ca ρ2 ds) = _
  simp only [b1K_eq]
theorem b1D_ali : b1D S K Z (.ali i) (d :: ds) ρ = optL ρ[i]? (fun c => call S (.fz d :: c :: ds.map .fz) (outB i K Z ρ) .mk) .mk := rfl
theorem b1D_fz : b1D S K Z (.fz e) (d :: ds) ρ = call S (.fz d :: .fz e :: ds.map .fz) (outV K Z ρ) .mk := rfl
def outMB (i : Nat) (K : Cell → Env → Prop) (ρ : Env) : FOut → Prop
  | .ok r c0 => K r (ρ.set i c0)
  | .ex _ _ => False
theorem u_methB : wMethB kc S i wr ρ K Z = (isObj kc ρ[i]? = true ∧ wr ρ (fun cs ρ1 => toDs ρ1 cs fun ds ρ2 => optL ρ2[i]? (fun c => call S (c :: ds.map .fz) (outMB i K ρ2) .mk) .mk) Z) := rfl
theorem outMB_ok (c c0 : Cell) : outMB i K ρ (.ok c c0) = K c (ρ.set i c0) := rfl
theorem isObj_obj : isObj kc (some (.obj kc cs)) = true := by simp [isObj]
theorem u_fMinD : fMinD cs ρ K = optL (svs ρ cs) (fun ds => minK ρ K ds) .mk := rfl
theorem minK_lst : minK ρ K [.lst es] = (minP es ∧ ∀ d ∈ es, (∀ e ∈ es, PySem.W.dataLt (pd e) (pd d) = false) → K (.fz d) ρ) := rfl
def r2K (n : Nat) (k : Ks) (ds : List D) (ρ2 : Env) : Prop := match ds with
  | [d1, d2] => k.xc ⟨n, [d2, d1]⟩ ρ2
  | _ => False
theorem u_raise2 : wRaise2 i wr ρ k = wr ρ (fun cs ρ1 => toDs ρ1 cs (r2K i k)) k.xc := rfl
theorem r2K_two : r2K i k [d, e] ρ = k.xc ⟨i, [e, d]⟩ ρ := rfl
def r1K (n : Nat) (k : Ks) (ds : List D) (ρ2 : Env) : Prop := match ds with
  | [d1] => k.xc ⟨n, [d1]⟩ ρ2
  | _ => False
theorem u_raise1 : wRaise1 i wr ρ k = wr ρ (fun cs ρ1 => toDs ρ1 cs (r1K i k)) k.xc := rfl
theorem r1K_one : r1K i k [d] ρ = k.xc ⟨i, [d]⟩ ρ := rfl
theorem u_raise0 : wRaise0 i ρ k = k.xc ⟨i, []⟩ ρ := rfl
theorem u_try (m : Nat → Option Bool) : wTryO m a b ρ k = a ρ { k with xc := tryX m b k } := rfl
theorem tryX_t {m : Nat → Option Bool} {x : Exc} (h : m x.c = some true) : tryX m b k x ρ = b ρ { k with xc := fun _ _ => False } := by unfold tryX; rw [h]
theorem tryX_f {m : Nat → Option Bool} {x : Exc} (h : m x.c = some false) : tryX m b k x ρ = k.xc x ρ := by unfold tryX; rw [h]
end
/-- the clause `except C`: C's number | all -/
def exM (n : Nat) (c : Nat) : Option Bool := if 10 ≤ c ∧ c ≤ 15 then some (decide (c = n)) else none
def exL (c : Nat) : Option Bool := if 10 ≤ c ∧ c ≤ 15 then some true else none
/-! ### dicts by ints, their values by a function -/
section
variable {α : Type}
def insK (ks : List Int) (k : Int) : List Int := if k ∈ ks then ks else ks ++ [k]
def updF (f : Int → α) (k : Int) (d : α) : Int → α := fun x => if x = k then d else f x
abbrev kI (ks : List Int) : List Key := ks.map Sum.inl
theorem hasK_fn (ks : List Int) (k : Int) : hasK (kI ks) (.inl k) = decide (k ∈ ks) := by
  induction ks with
  | nil => rfl
  | cons a r ih =>
    unfold hasK at ih ⊢
    rw [kI, List.map_cons, List.any_cons, ih]
    by_cases h1 : a = k
    · simp [h1]
    · have : ¬ k = a := fun e => h1 e.symm
      simp [h1, this]
theorem dlk_fn (ks : List Int) (f : Int → D) (k : Int) : dlk (kI ks) (ks.map f) (.inl k) = if k ∈ ks then some (f k) else none := by
  unfold dlk
  induction ks with
  | nil => rfl
  | cons a r ih =>
    rw [kI, List.map_cons, List.map_cons, List.zip_cons_cons, List.find?_cons]
    by_cases h1 : a = k
    · simp [h1]
    · have : ¬ k = a := fun e => h1 e.symm
      simp only [Sum.inl.injEq, h1, decide_false, List.mem_cons, this, false_or]
      exact ih
theorem dputK_fn (ks : List Int) (k : Int) : dputK (kI ks) (.inl k) = kI (insK ks k) := by
  unfold dputK insK
  rw [hasK_fn]
  by_cases h : k ∈ ks <;> simp [h, kI]
theorem dputD_fn (ks : List Int) (f : Int → α) (k : Int) (d : α) : dputD (kI ks) (ks.map f) (.inl k) d = (insK ks k).map (updF f k d) := by
  unfold dputD insK
  rw [hasK_fn]
  by_cases h : k ∈ ks
  · rw [if_pos (by simpa using h), if_pos h]
    clear h
    induction ks with
    | nil => rfl
    | cons a r ih =>
      rw [kI, List.map_cons, List.map_cons, List.zip_cons_cons, List.map_cons, ih, List.map_cons]
      congr 1
      unfold updF
      by_cases e : a = k <;> simp [e]
  · rw [if_neg (by simpa using h), if_neg h, List.map_append]
    congr 1
    · refine List.map_congr_left fun x hx => ?_
      have : x ≠ k := fun e => h (e ▸ hx)
      simp [updF, this]
    · simp [updF]
theorem mem_insK {ks : List Int} {k x : Int} : x ∈ insK ks k ↔ x ∈ ks ∨ x = k := by
  unfold insK
  split
  · exact ⟨.inl, fun h => h.elim id fun e => by subst e; assumption⟩
  · simp
theorem insK_nodup {ks : List Int} {k : Int} (h : ks.Nodup) : (insK ks k).Nodup := by
  unfold insK
  split
  · exact h
  · rename_i hk
    exact List.nodup_append.mpr ⟨h, by simp, fun x hx y hy e => by simp at hy; subst hy; subst e; exact hk hx⟩
theorem insK_len (ks : List Int) (k : Int) : (insK ks k).length ≤ ks.length + 1 := by
  unfold insK
  split <;> simp
theorem updF_self (f : Int → α) (k : Int) (d : α) : updF f k d k = d := if_pos rfl
theorem updF_ne (f : Int → α) {k x : Int} (d : α) (h : x ≠ k) : updF f k d x = f x := if_neg h
end
theorem kd_int (i : Int) : kd (.int i) = some (.inl i) := rfl
theorem gDIn_int (neg : Bool) (i : Int) (ks : List Int) (f : Int → D) : gDIn neg [.int i, .dct (kI ks) (ks.map f)] = some (.bl (if neg then !decide (i ∈ ks) else decide (i ∈ ks))) := by
  show (kd (.int i)).map (fun k' => D.bl (if neg then !(dlk (kI ks) (ks.map f) k').isSome else (dlk (kI ks) (ks.map f) k').isSome)) = _
  rw [kd_int, Option.map_some, dlk_fn]
  by_cases h : i ∈ ks <;> simp [h]
theorem gDIn_yes (i : Int) (ks : List Int) (f : Int → D) : gDIn false [.int i, .dct (kI ks) (ks.map f)] = some (.bl (decide (i ∈ ks))) := gDIn_int _ _ _ _
theorem gDIn_no (i : Int) (ks : List Int) (f : Int → D) : gDIn true [.int i, .dct (kI ks) (ks.map f)] = some (.bl (decide (i ∉ ks))) := by rw [gDIn_int]; simp
theorem dlk_in {ks : List Int} {f : Int → D} {k : Int} (h : k ∈ ks) : dlk (kI ks) (ks.map f) (.inl k) = some (f k) := by rw [dlk_fn, if_pos h]
theorem gLenSet_i (ns : List Int) (h : ns.length ≤ 4000) : gLenSet [.lst (ns.map D.int)] = some (.int ((CLR.dd ns).length : Nat)) := gLenSet_li h
/-! ### ints in a tuple | a list | a list of one's own -/
def sq : Bool → List Int → D
  | true, ns => .tup (ns.map D.int)
  | false, ns => .lst (ns.map D.int)
inductive K3 where
  | tup | lst | own
def sqC : K3 → List Int → Cell
  | .tup, ns => .fz (.tup (ns.map D.int))
  | .lst, ns => .fz (.lst (ns.map D.int))
  | .own, ns => .lst (ns.map D.int)
def sqV : K3 → Nat → List Int → Cell
  | .tup, _, ns => .fz (.tup (ns.map D.int))
  | .lst, _, ns => .fz (.lst (ns.map D.int))
  | .own, i, _ => .ali i
def k3b : K3 → Bool
  | .tup => true
  | _ => false
section
variable (k : K3) (b : Bool) (ns : List Int) (i : Nat) (ρ : Env)
theorem varK_sqC (K : Cell → Env → Prop) : varK (some (sqC k ns)) i K ρ .mk = K (sqV k i ns) ρ := by cases k <;> rfl
theorem sv_sqV (h : ρ[i]? = some (sqC k ns)) : sv ρ (sqV k i ns) = some (sq (k3b k) ns) := by
  cases k
  · rfl
  · rfl
  · show svO ρ[i]? = _
    rw [h]; rfl
theorem b1D_sqV {S : FSpec} {K : Cell → Env → Prop} {Z : KX} {d : D} {ds : List D} (h : ρ[i]? = some (sqC k ns)) (w : call S (.fz d :: sqC k ns :: ds.map .fz) (fun o => match o with
    | .ok r c0 => c0 = sqC k ns ∧ K r ρ
    | .ex x c0 => c0 = sqC k ns ∧ Z x ρ) .mk) : b1D S K Z (sqV k i ns) (d :: ds) ρ := by
  obtain ⟨a, h1, h2, h3⟩ := w
  have own : ∀ {S : FSpec} {K : Cell → Env → Prop} {Z : KX}, True := trivial
  cases k with
  | tup => exact ⟨a, h1, h2, fun o ho => by
      have z := h3 o ho
      cases o with
      | ok r c0 => exact z.2
      | ex x c0 => exact z.2⟩
  | lst => exact ⟨a, h1, h2, fun o ho => by
      have z := h3 o ho
      cases o with
      | ok r c0 => exact z.2
      | ex x c0 => exact z.2⟩
  | own =>
    show optL ρ[i]? (fun c => call S (.fz d :: c :: ds.map .fz) (outB i K Z ρ) .mk) .mk
    rw [h]
    exact ⟨a, h1, h2, fun o ho => by
      have z := h3 o ho
      cases o with
      | ok r c0 =>
        obtain ⟨rfl, z⟩ := z
        show K r (ρ.set i _)
        rw [set_self h]
        exact z
      | ex x c0 =>
        obtain ⟨rfl, z⟩ := z
        show Z x (ρ.set i _)
        rw [set_self h]
        exact z⟩
theorem itL_sq (K : List D → Env → Prop) : itL ρ K (sq b ns) = K (ns.map D.int) ρ := by cases b <;> rfl
theorem gList_sq : gList [sq b ns] = some (ns.map D.int) := by cases b <;> rfl
theorem gLen_sq : gLen [sq b ns] = some (.int ns.length) := by cases b <;> simp [sq, gLen]
theorem gSorted_sq : gSorted [sq b ns] = some ((isrt ns).map D.int) := by
  cases b
  · exact gSorted_li ns
  · exact gSorted_ti ns
end
theorem gNe_nil2 : gNe [.lst [], .lst []] = some (.bl false) := rfl
theorem gEq_nil2 : gEq [.lst [], .lst []] = some (.bl true) := rfl
theorem gEq_LI0 (ns : List Int) : gEq [.lst (ns.map D.int), .lst []] = some (.bl (decide (ns = []))) := by
  rw [gEq_nil _ (lays_ints _ _)]
  cases ns <;> simp
section
variable (ρ : Env) (k : Ks) (wr : WA) (c : Cell) (cs : List Cell) (i : Nat) (is : List Nat)
theorem u_par : wPar is wr ρ k = wr ρ (fun cs ρ1 => (noAli cs && decide (cs.length = is.length) && is.all fun i => decide (i < ρ1.length)) = true ∧ k.nx (setAll ρ1 is cs)) k.xc := rfl
theorem setAll_nil : setAll ρ [] [] = ρ := rfl
theorem setAll_cons : setAll ρ (i :: is) (c :: cs) = setAll (ρ.set i c) is cs := rfl
theorem noAli_nil : noAli [] = true := rfl
theorem noAli_fz (d : D) : noAli (.fz d :: cs) = noAli cs := rfl
theorem noAli_lst (d : List D) : noAli (.lst d :: cs) = noAli cs := rfl
theorem noAli_dct (ks : List Key) (d : List D) : noAli (.dct ks d :: cs) = noAli cs := rfl
theorem noAli_obj (n : Nat) (d : List Cell) : noAli (.obj n d :: cs) = noAli cs := rfl
theorem gIsB_bl (b c : Bool) : gIsB [.bl b, .bl c] = some (.bl (decide (b = c))) := rfl
end
/-! ### fields that are dicts, pairs, own lists walked -/
section
variable (ρ : Env) (k : Ks) (K : Cell → Env → Prop) (Z : KX) (a b : WS) (wa wb : WE) (wt : WT) (wi : WI) (wg : WG) (i j kc jf : Nat) (cs : List Cell) (ks : List Key) (ds : List D) (d e : D)
def dlkK (ρ : Env) (K : Cell → Env → Prop) (p : List Key × List D) (o : Option Key) : Prop := optL o (fun key => optL (dlk p.1 p.2 key) (fun d => K (.fz d) ρ) .mk) .mk
theorem u_fdget : wFDGet i kc jf j ρ K Z = optL (fldD kc jf ρ[i]?) (fun p => dlkK ρ K p (keyO ρ[j]?)) .mk := rfl
theorem u_fdcopy : wFDCopy i kc jf ρ K Z = optL (fldD kc jf ρ[i]?) (fun p => K (.dct p.1 p.2) ρ) .mk := rfl
theorem u_fdput : wFDPut i kc jf wa j ρ k = wa ρ (fun c ρ1 => toD ρ1 c fun d ρ2 => optL (fldD kc jf ρ2[i]?) (fun p => optL (keyO ρ2[j]?) (fun key => p.1.length < sizeLine ∧ k.nx (setFD ρ2 i kc jf (dputK p.1 key) (dputD p.1 p.2 key d))) .mk) .mk) k.xc := rfl
theorem fldD_2 (c0 c1 : Cell) (kc : Nat) : fldD kc 2 (some (.obj kc [c0, c1, .dct ks ds])) = some (ks, ds) := by simp [fldD]
theorem setFD_2 (c0 c1 c2 : Cell) (kc : Nat) (ρ : Env) (h : ρ[i]? = some (.obj kc [c0, c1, c2])) : setFD ρ i kc 2 ks ds = ρ.set i (.obj kc [c0, c1, .dct ks ds]) := by
  unfold setFD
  rw [h]
  rfl
theorem keyO_int (x : Int) : keyO (some (.fz (.int x))) = some (.inl x) := rfl
def dgetNK (ρ : Env) (j : Nat) (K : Cell → Env → Prop) (o : Option Cell) (_ : Tk K) : Prop := match o with
  | some (.dct ks ds) => optL (keyO ρ[j]?) (fun key => K (.fz ((dlk ks ds key).getD .non)) ρ) .mk
  | _ => False
theorem u_dgetN : wDGetN i j ρ K Z = dgetNK ρ j K ρ[i]? .mk := rfl
theorem dgetNK_dct : dgetNK ρ j K (some (.dct ks ds)) .mk = optL (keyO ρ[j]?) (fun key => K (.fz ((dlk ks ds key).getD .non)) ρ) .mk := rfl
def forOL (i : Nat) (ds : List D) (ρ : Env) (turn : D → Env → (Env → Prop) → Prop) (done : Env → Prop) (_ : Tk turn) (_ : Tk done) : Prop := forOK i ds ρ turn done
def forOC (i : Nat) (turn : D → Env → (Env → Prop) → Prop) (done : Env → Prop) (ρ : Env) (o : Option Cell) (_ : Tk turn) (_ : Tk done) : Prop := match o with
  | some (.lst ds) => forOL i ds ρ turn done .mk .mk
  | _ => False
theorem u_forO : wForO i wg a ρ k = forOC i (fun d ρ2 N => wg d ρ2 fun ρ3 => a ρ3 { k with nx := N, ct := N, bk := k.nx }) k.nx ρ ρ[i]? .mk .mk := rfl
theorem forOC_lst (turn : D → Env → (Env → Prop) → Prop) (done : Env → Prop) : forOC i turn done ρ (some (.lst ds)) .mk .mk = forOL i ds ρ turn done .mk .mk := rfl
theorem forO_intro {i : Nat} {ds : List D} {ρ : Env} {turn : D → Env → (Env → Prop) → Prop} {done : Env → Prop} {t : Tk turn} {u : Tk done} (I : Nat → Env → Prop) (h0 : I 0 ρ) (h1 : ∀ n d ρ2, ds[n]? = some d → I n ρ2 → ρ2[i]? = some (.lst ds) ∧ turn d ρ2 (I (n + 1))) (h2 : ∀ ρ2, I ds.length ρ2 → ρ2[i]? = some (.lst ds) ∧ done ρ2) : forOL i ds ρ turn done t u := ⟨I, h0, h1, h2⟩
def lc2L (i j : Nat) (ds : List D) (ρ1 : Env) (t : Env → (Bool → Env → Prop) → Prop) (w : Env → (D → Env → Prop) → Prop) (done : List D → Env → Prop) (_ : Tk t) (_ : Tk w) (_ : Tk done) : Prop := lc2I i j ds ρ1 t w done
theorem u_lc2 : wLc2 i j wi wt wa ρ K Z = wi ρ (fun ds ρ1 => (i < ρ1.length ∧ j < ρ1.length) ∧ lc2L i j ds ρ1 (fun ρ KT => wt ρ KT (fun _ _ => False)) (fun ρ KD => wa ρ (fun c ρ4 => toD ρ4 c KD) (fun _ _ => False)) (fun acc ρ2 => K (.lst acc) ρ2) .mk .mk .mk) Z := rfl
def lkK (s : Nat) (ks : List Key) (ds : List D) (K : Cell → Env → Prop) (c : Cell) (ρ2 : Env) : Prop := ρ2[s]? = some (.dfz ks ds) ∧ noDzs (ρ2.set s .un) = true ∧ (∃ acc, c = .lst acc) ∧ K c (ρ2.set s (.dct ks ds))
def lkO (s : Nat) (wi : WE) (ρ : Env) (K : Cell → Env → Prop) (o : Option Cell) (_ : Tk K) : Prop := match o with
  | some (.dct ks ds) => wi (ρ.set s (.dfz ks ds)) (lkK s ks ds K) (fun _ _ => False)
  | _ => False
theorem u_lk (s : Nat) : wLk s wa ρ K Z = lkO s wa ρ K ρ[s]? .mk := rfl
theorem lkO_dct (s : Nat) : lkO s wa ρ K (some (.dct ks ds)) .mk = wa (ρ.set s (.dfz ks ds)) (lkK s ks ds K) (fun _ _ => False) := rfl
theorem lkK_lst (s : Nat) (acc : List D) : lkK s ks ds K (.lst acc) ρ = (ρ[s]? = some (.dfz ks ds) ∧ noDzs (ρ.set s .un) = true ∧ K (.lst acc) (ρ.set s (.dct ks ds))) := by
  unfold lkK
  refine propext ⟨fun ⟨a, b, _, c⟩ => ⟨a, b, c⟩, fun ⟨a, b, c⟩ => ⟨a, b, ⟨_, rfl⟩, c⟩⟩
theorem noAli_dz : noDzs [] = true := rfl
theorem noAli_dz0 : noDzs (.un :: cs) = noDzs cs := rfl
theorem noAli_dz1 : noDzs (.fz d :: cs) = noDzs cs := rfl
theorem noAli_dz2 : noDzs (.lst ds :: cs) = noDzs cs := rfl
theorem noAli_dz3 : noDzs (.dct ks ds :: cs) = noDzs cs := rfl
def itKO (ρ : Env) (K : List D → Env → Prop) (o : Option Cell) (_ : Tk K) : Prop := match o with
  | some (.dfz ks _) => K (ks.map keyD) ρ
  | _ => False
theorem u_itK (s : Nat) (K : List D → Env → Prop) : wItK s ρ K Z = itKO ρ K ρ[s]? .mk := rfl
theorem itKO_dfz (K : List D → Env → Prop) (xs : List Int) : itKO ρ K (some (.dfz (kI xs) ds)) .mk = K (xs.map D.int) ρ := by
  show K ((xs.map Sum.inl).map keyD) ρ = _
  rw [List.map_map]
  rfl
def dzO (ρ : Env) (j : Nat) (K : Cell → Env → Prop) (o : Option Cell) (_ : Tk K) : Prop := match o with
  | some (.dfz ks ds) => dlkK ρ K (ks, ds) (keyO ρ[j]?)
  | _ => False
theorem u_dzGet (s : Nat) : wDzGet s j ρ K Z = dzO ρ j K ρ[s]? .mk := rfl
theorem dzO_dfz : dzO ρ j K (some (.dfz ks ds)) .mk = dlkK ρ K (ks, ds) (keyO ρ[j]?) := rfl
/-! ### texts -/
def joinK (z : Str) (ρ : Env) (K : Cell → Env → Prop) (o : Option Str) : Prop := optL o (fun s => K (.fz (.str s)) ρ) .mk
theorem u_join (z : Str) : wJoin z wa ρ K Z = wa ρ (fun c ρ1 => optL (sv ρ1 c) (fun d => joinK z ρ1 K (joinD z d)) .mk) Z := rfl
theorem joinK_some (z s : Str) : joinK z ρ K (some s) = K (.fz (.str s)) ρ := rfl
def splK (z : Str) (ρ : Env) (K : Cell → Env → Prop) (d : D) : Prop := spD z (fun ds => K (.lst ds) ρ) d
theorem u_split (z : Str) : wSplit z wa ρ K Z = wa ρ (fun c ρ1 => optL (sv ρ1 c) (fun d => splK z ρ1 K d) .mk) Z := rfl
theorem splK_str (z a : Str) : splK z ρ K (.str a) = ((z.length == 0) = false ∧ a.length + 2 ≤ sizeLine ∧ K (.lst ((Txt.split a z).map D.str)) ρ) := rfl
def itSK (ρ : Env) (K : List D → Env → Prop) : D → Prop
  | .str x => K (signsD x) ρ
  | _ => False
theorem u_itS (K : List D → Env → Prop) : wItS wa ρ K Z = wa ρ (fun c ρ1 => optL (sv ρ1 c) (fun d => itSK ρ1 K d) .mk) Z := rfl
theorem itSK_str (x : Str) (K : List D → Env → Prop) : itSK ρ K (.str x) = K (signsD x) ρ := rfl
end
end CL

namespace CL
open PySem L2
local macro_rules | `(tactic| walk_at "cl") => `(tactic| simp -dsimp only [br_true, br_false, ↓u_seq, ↓u_skip, ↓u_expr, ↓u_if, ↓u_ret, ↓retK_fz, ↓retK_lst, ↓retK_dct, ↓retK_obj, ↓retK_lsc, ↓retK_ali, ↓u_set, ↓rest_fz, ↓rest_lst, ↓rest_dct, ↓rest_obj, ↓rest_lsc, ↓rest_ali, ↓toD_fz, ↓toD_lst, ↓toD_dct, ↓toD_obj, ↓toD_lsc, ↓toD_ali, ↓toDs_nil, ↓toDs_cons, frz_fz, frz_lst, frz_dct, ↓u_var, varK_fz, varK_lst, varK_dct, varK_obj, varK_lsc, ↓u_C, ↓u_nil, ↓u_cons, ↓u_F, ↓u_fS, ↓u_fL, opt_some, opt_if, svs_nil, svs_cons, sv_fz, sv_lst, sv_dct, sv_ali, svO_lst, svO_fz, svO_dct, get0, getS, ↓u_B, ↓u_and, ↓u_or, ↓u_not, ↓u_yes, ↓u_andV, ↓u_orV, ↓u_notV, ↓u_ifE, ↓u_chain, ↓u_tup, ↓u_lst, ↓u_lsc, ↓u_dict0, ↓u_fAdd, ↓add_int, ↓add_str, ↓add_lst, ↓add_tup, ↓u_fMul, ↓mul_int, ↓mul_lst, ↓u_fIx, ↓ix_lst, ↓ix_tup, ↓ix_scr, ↓ix_str, ↓u_fTuple, ↓tup_lst, ↓tup_tup, ↓u_fDGet, ↓dget_dct, ↓u_sl, ↓sl_lst, ↓sl_tup, ↓sl_str, ↓u_no, ↓u_so, ↓u_lput, ↓lputK_int, lputO_lst, ↓u_dput, ↓dputC_fz, dputO_dct, ownL_isL, ownD_isDc, live_isLv, isL_lst, isDc_dct, isLv_lst, isLv_fz, isLv_obj, isLv_dct, isLv_lsc, ↓u_meth, methO_lst, ↓u_app, appO_lst, ↓u_pop, ↓u_popAt, ↓u_clear, ↓u_asg, ↓u_gN, ↓u_gTu, ↓u_gsN, ↓u_gsC, ↓fldV_fz, fldO_obj, ↓fldK_fz, ↓fldK_ali, ↓u_fld, ↓u_callV, ↓outV_ok, ↓outV_ex, ↓u_callB, ↓outB_ok, ↓outB_ex, ↓outM_ok, ↓u_methV, ↓methD_obj, ↓outI_ok, ↓u_make, ↓u_fset, fset_0, fset_1, fset_2, fset_3, fset_4, fset_5, xc_endK, rt_endK, nx_endK, ↓u_for, ↓u_while, ↓u_lc, ↓u_itL, ↓itL_lst, ↓itL_tup, ↓itL_scr, ↓u_itU, ↓itU_tup, ↓u_rg1, ↓u_rg2, ↓u_lrg1, ↓u_lrg2, atI_0, atI_1, atI_2, atI_3, gSub_int, gDiv_int, gMod_int, gPow_18, gPow_6, gLt_int, gLe_int, gGt_int, gGe_int, gMax_int, gMin_int, gNeg_int, gInt_int, gInt_bl, gLen_lst, gLen_tup, gLen_scr, gLen_dct, gLen_str, gList_lst, gList_tup, gRev_lst, gSorted_li, gSorted_ti, gSum_li, gIsN_non, gIsN_int, gNotN_non, gNotN_int, gEq_int, gNe_int, gEq_LI, gNe_LI, gNe_LI0, gIn_int, gNotIn_int, ↓ixN_c0, ↓ixN_c1, ↓ixN_c2, ↓ixN_c3, frz_net, fget_needs, fget_roots, fget_wires, fget_net1, fget_kept, fget_used, fget_net2, fget_begin, fget_dark, fget_first, fget_far, fget_by, fget_net3, fget_state, fget_told, rangeD_upto, gIs_non, isB_int_non, isB_bool_non, isB_str_non, isB_list_non, isB_tuple_non, isB_dict_non, gIs_bl, isB_int_bl, isB_bool_bl, isB_str_bl, isB_list_bl, isB_tuple_bl, isB_dict_bl, gIs_int, isB_int_int, isB_bool_int, isB_str_int, isB_list_int, isB_tuple_int, isB_dict_int, gIs_str, isB_int_str, isB_bool_str, isB_str_str, isB_list_str, isB_tuple_str, isB_dict_str, gIs_tup, isB_int_tup, isB_bool_tup, isB_str_tup, isB_list_tup, isB_tuple_tup, isB_dict_tup, gIs_lst, isB_int_lst, isB_bool_lst, isB_str_lst, isB_list_lst, isB_tuple_lst, isB_dict_lst, gIs_dct, isB_int_dct, isB_bool_dct, isB_str_dct, isB_list_dct, isB_tuple_dct, isB_dict_dct, gNe_tt, gNe_ff, gNe_tf, gNe_ft, gEq_tt, gEq_ff, gIsN_lst, gNotN_lst, gIsN_tup, gNotN_tup, gIsN_str, gNotN_str, gIsN_bl, gNotN_bl, gIsN_dct, gNotN_dct, ↓rest_Dc, isLv_Dc, ↓u_callL, ↓outL_ok, ↓outL_ex, ↓outML_ok, ↓u_methL, ↓methLD_obj, ↓u_callB1, ↓b1A_two, ↓b1D_ali, ↓b1D_fz, ↓u_methB, ↓outMB_ok, isObj_obj, ↓u_fMinD, ↓minK_lst, ↓u_raise2, ↓r2K_two, ↓u_raise1, ↓r1K_one, ↓u_raise0, ↓u_try, kd_int, gDIn_yes, gDIn_no, varK_sqC, sv_sqV, ↓itL_sq, gList_sq, gLen_sq, gSorted_sq, gNe_nil2, gEq_nil2, gEq_LI0, ↓u_par, setAll_nil, setAll_cons, noAli_nil, noAli_fz, noAli_lst, noAli_dct, noAli_obj, gIsB_bl, ↓u_fdget, ↓u_fdcopy, ↓u_fdput, fldD_2, setFD_2, keyO_int, ↓u_dgetN, ↓dgetNK_dct, ↓u_forO, ↓forOC_lst, ↓u_lc2, ↓u_lk, ↓lkO_dct, ↓lkK_lst, noAli_dz, noAli_dz0, noAli_dz1, noAli_dz2, noAli_dz3, ↓u_itK, ↓itKO_dfz, ↓u_dzGet, ↓dzO_dfz, ↓u_join, ↓joinK_some, ↓u_split, ↓splK_str, ↓u_itS, ↓itSK_str, upto_length, Bool.not_true, Bool.not_false, decide_true, decide_false, Option.bind_some, Option.map_some, List.set_cons_zero, List.set_cons_succ, true_and, and_true, List.map_cons, List.map_nil, decide_eq_true_eq, Bool.and_eq_true, List.length_map, List.length_range, List.length_cons, List.length_nil, Nat.zero_add, Nat.reduceAdd, Nat.reduceLT, Nat.reduceLeDiff, Int.reduceToNat, Int.reduceLT, Int.reduceLE, List.getElem?_cons_zero, List.eraseIdx_cons_zero, List.all_cons, List.all_nil, Bool.and_true, Bool.true_and])
/-! # dice -/
@[reducible] def S_Ldice : FSpec := ⟨List Int, none, fun s => [.fz (.scr s)], fun _ => True, fun s o => ∃ d : Dc, d.ok ∧ o = .ok d.c .un⟩
@[reducible] def S_Lnext : FSpec := ⟨Dc × Int, some 0, fun a => [a.1.c, .fz (.int a.2)], fun a => 0 < a.2 ∧ a.2 < 1073741824 ∧ a.1.ok, fun a o => ∃ (x : Int) (d : Dc), 0 ≤ x ∧ x < a.2 ∧ d.ok ∧ o = .ok (.fz (.int x)) d.c⟩
def w_Ldice : WS := (wSeq (wSet 1 (wC (.int 0))) (wSeq (wFor (wItL (wVar 0)) (gN 2) (wSet 1 (w2 (fS gMod) (w2 fAdd (w2 fAdd (w2 fMul (wVar 1) (wC (.int 48271))) (w2 fMul (w2 (fS gMod) (wVar 2) (wC (.int 2147483647))) (wC (.int 69621)))) (wC (.int 11))) (wC (.int 2147483647))))) (wRet (wLst (wCons (wVar 0) (wCons (wC (.int 0)) (wCons (w2 fMul (wVar 1) (w1 (fS gInt) (w2 (fS gGt) (w1 (fS gLen) (wVar 0)) (wC (.int 2))))) (wCons (wC (.int 0)) wNil))))))))
def w_Lnext : WS := (wSeq (wIf (wB (w2 (fS gGt) (w2 fIx (wVar 0) (wC (.int 3))) (wC (.int 0)))) (wSeq (wSet 2 (w2 (fS gMod) (w2 fIx (wVar 0) (wC (.int 3))) (wVar 1))) (wSeq (wLPut 0 (w2 (fS gDiv) (w2 fIx (wVar 0) (wC (.int 3))) (wVar 1)) (wC (.int 3))) (wRet (wVar 2)))) wSkip) (wSeq (wLPut 0 (w2 fAdd (w2 fIx (wVar 0) (wC (.int 1))) (wC (.int 1))) (wC (.int 1))) (wSeq (wIf (wB (w2 (fS gLe) (w2 fIx (wVar 0) (wC (.int 1))) (w1 (fS gLen) (w2 fIx (wVar 0) (wC (.int 0)))))) (wSeq (wSet 3 (w2 fIx (w2 fIx (wVar 0) (wC (.int 0))) (w2 (fS gSubI) (w2 fIx (wVar 0) (wC (.int 1))) (wC (.int 1))))) (wSeq (wLPut 0 (wIfE (wB (w2 (fS gGe) (wVar 3) (w2 (fS gPow) (wC (.int 10)) (wC (.int 18))))) (w2 (fS gDiv) (wVar 3) (wVar 1)) (wC (.int 0))) (wC (.int 3))) (wRet (w2 (fS gMod) (wVar 3) (wVar 1))))) wSkip) (wSeq (wLPut 0 (w2 (fS gMod) (w2 fMul (w2 fIx (wVar 0) (wC (.int 2))) (wC (.int 48271))) (wC (.int 2147483647))) (wC (.int 2))) (wRet (w2 (fS gMod) (w2 (fS gDiv) (w2 fIx (wVar 0) (wC (.int 2))) (wC (.int 7))) (wVar 1)))))))
theorem sem_Lnext (a : Dc × Int) (hp : S_Lnext.pre a) : w_Lnext (S_Lnext.args a ++ List.replicate 2 .un) (endK S_Lnext a) := by
  obtain ⟨⟨s, i, m, r⟩, n⟩ := a
  obtain ⟨h1, h2, h3⟩ := hp
  simp only [Dc.ok] at h1 h2 h3
  have md : ∀ x : Int, 0 ≤ x % n ∧ x % n < n := fun x => ⟨Int.emod_nonneg _ (by omega), Int.emod_lt_of_pos _ h1⟩
  show w_Lnext [.lst [.scr s, .int i, .int m, .int r], .fz (.int n), .un, .un] _
  unfold w_Lnext
  walk_at "cl"
  refine br_intro (fun h => ?_) (fun h => ?_)
  · walk_at "cl"
    exact ⟨h1, ⟨h1, h2⟩, _, ⟨s, i, m, _⟩, (md _).1, (md _).2, h3, rfl⟩
  · walk_at "cl"
    refine br_intro (fun g => ?_) (fun g => ?_)
    · have g' : i + 1 ≤ s.length := of_decide_eq_true g
      have hl : i.toNat < s.length := by omega
      have e : atI s (i + 1 - 1) = some s[i.toNat] := by
        refine atI_nat (by omega) ?_
        have : (i + 1 - 1).toNat = i.toNat := by omega
        rw [this, List.getElem?_eq_getElem hl]
      walk_at "cl"
      rw [e]
      walk_at "cl"
      refine br_intro (fun g2 => ?_) (fun g2 => ?_)
      · walk_at "cl"
        exact ⟨⟨h1, h2⟩, h1, _, ⟨s, i + 1, m, _⟩, (md _).1, (md _).2, by show 0 ≤ i + 1; omega, rfl⟩
      · walk_at "cl"
        exact ⟨h1, _, ⟨s, i + 1, m, _⟩, (md _).1, (md _).2, by show 0 ≤ i + 1; omega, rfl⟩
    · walk_at "cl"
      exact ⟨inW_lit _ _ (by decide), h1, _, ⟨s, i + 1, _, _⟩, (md _).1, (md _).2, by show 0 ≤ i + 1; omega, rfl⟩
theorem sem_Ldice (a : List Int) (hp : S_Ldice.pre a) : w_Ldice (S_Ldice.args a ++ List.replicate 2 .un) (endK S_Ldice a) := by
  show w_Ldice [.fz (.scr a), .un, .un] _
  unfold w_Ldice
  walk_at "cl"
  refine forI_intro (fun n ρ => ∃ m c, ρ = [.fz (.scr a), .fz (.int m), c]) ⟨_, _, rfl⟩ ?_ ?_
  · rintro n d _ hd ⟨m, c, rfl⟩
    obtain ⟨x, hx, rfl⟩ : ∃ x, a[n]? = some x ∧ D.int x = d := by simpa using hd
    walk_at "cl"
    exact ⟨inW_lit _ _ (by decide), inW_lit _ _ (by decide), _, _, rfl⟩
  rintro _ ⟨m, c, rfl⟩
  walk_at "cl"
  refine ⟨?_, ⟨a, 0, _, 0⟩, Int.le_refl _, rfl⟩
  refine inW_lit _ _ ?_
  split <;> decide
/-- a draw -/
theorem call_next {d : Dc} {n : Int} {i : Nat} {K : Cell → Env → Prop} {Z : KX} {ρ : Env} (h : d.ok) (h1 : 0 < n) (h2 : n < 1073741824) (k : ∀ (x : Int) (d' : Dc), 0 ≤ x → x < n → d'.ok → K (.fz (.int x)) (ρ.set i d'.c)) : call S_Lnext [d.c, .fz (.int n)] (outB i K Z ρ) .mk := by
  refine call_intro (d, n) rfl ⟨h1, h2, h⟩ ?_
  rintro _ ⟨x, d', a, b, c, rfl⟩
  exact k x d' a b c
end CL

namespace CL
open PySem L2
local macro_rules | `(tactic| walk_at "cl") => `(tactic| simp -dsimp only [br_true, br_false, ↓u_seq, ↓u_skip, ↓u_expr, ↓u_if, ↓u_ret, ↓retK_fz, ↓retK_lst, ↓retK_dct, ↓retK_obj, ↓retK_lsc, ↓retK_ali, ↓u_set, ↓rest_fz, ↓rest_lst, ↓rest_dct, ↓rest_obj, ↓rest_lsc, ↓rest_ali, ↓toD_fz, ↓toD_lst, ↓toD_dct, ↓toD_obj, ↓toD_lsc, ↓toD_ali, ↓toDs_nil, ↓toDs_cons, frz_fz, frz_lst, frz_dct, ↓u_var, varK_fz, varK_lst, varK_dct, varK_obj, varK_lsc, ↓u_C, ↓u_nil, ↓u_cons, ↓u_F, ↓u_fS, ↓u_fL, opt_some, opt_if, svs_nil, svs_cons, sv_fz, sv_lst, sv_dct, sv_ali, svO_lst, svO_fz, svO_dct, get0, getS, ↓u_B, ↓u_and, ↓u_or, ↓u_not, ↓u_yes, ↓u_andV, ↓u_orV, ↓u_notV, ↓u_ifE, ↓u_chain, ↓u_tup, ↓u_lst, ↓u_lsc, ↓u_dict0, ↓u_fAdd, ↓add_int, ↓add_str, ↓add_lst, ↓add_tup, ↓u_fMul, ↓mul_int, ↓mul_lst, ↓u_fIx, ↓ix_lst, ↓ix_tup, ↓ix_scr, ↓ix_str, ↓u_fTuple, ↓tup_lst, ↓tup_tup, ↓u_fDGet, ↓dget_dct, ↓u_sl, ↓sl_lst, ↓sl_tup, ↓sl_str, ↓u_no, ↓u_so, ↓u_lput, ↓lputK_int, lputO_lst, ↓u_dput, ↓dputC_fz, dputO_dct, ownL_isL, ownD_isDc, live_isLv, isL_lst, isDc_dct, isLv_lst, isLv_fz, isLv_obj, isLv_dct, isLv_lsc, ↓u_meth, methO_lst, ↓u_app, appO_lst, ↓u_pop, ↓u_popAt, ↓u_clear, ↓u_asg, ↓u_gN, ↓u_gTu, ↓u_gsN, ↓u_gsC, ↓fldV_fz, fldO_obj, ↓fldK_fz, ↓fldK_ali, ↓u_fld, ↓u_callV, ↓outV_ok, ↓outV_ex, ↓u_callB, ↓outB_ok, ↓outB_ex, ↓outM_ok, ↓u_methV, ↓methD_obj, ↓outI_ok, ↓u_make, ↓u_fset, fset_0, fset_1, fset_2, fset_3, fset_4, fset_5, xc_endK, rt_endK, nx_endK, ↓u_for, ↓u_while, ↓u_lc, ↓u_itL, ↓itL_lst, ↓itL_tup, ↓itL_scr, ↓u_itU, ↓itU_tup, ↓u_rg1, ↓u_rg2, ↓u_lrg1, ↓u_lrg2, atI_0, atI_1, atI_2, atI_3, gSub_int, gDiv_int, gMod_int, gPow_18, gPow_6, gLt_int, gLe_int, gGt_int, gGe_int, gMax_int, gMin_int, gNeg_int, gInt_int, gInt_bl, gLen_lst, gLen_tup, gLen_scr, gLen_dct, gLen_str, gList_lst, gList_tup, gRev_lst, gSorted_li, gSorted_ti, gSum_li, gIsN_non, gIsN_int, gNotN_non, gNotN_int, gEq_int, gNe_int, gEq_LI, gNe_LI, gNe_LI0, gIn_int, gNotIn_int, ↓ixN_c0, ↓ixN_c1, ↓ixN_c2, ↓ixN_c3, frz_net, fget_needs, fget_roots, fget_wires, fget_net1, fget_kept, fget_used, fget_net2, fget_begin, fget_dark, fget_first, fget_far, fget_by, fget_net3, fget_state, fget_told, rangeD_upto, gIs_non, isB_int_non, isB_bool_non, isB_str_non, isB_list_non, isB_tuple_non, isB_dict_non, gIs_bl, isB_int_bl, isB_bool_bl, isB_str_bl, isB_list_bl, isB_tuple_bl, isB_dict_bl, gIs_int, isB_int_int, isB_bool_int, isB_str_int, isB_list_int, isB_tuple_int, isB_dict_int, gIs_str, isB_int_str, isB_bool_str, isB_str_str, isB_list_str, isB_tuple_str, isB_dict_str, gIs_tup, isB_int_tup, isB_bool_tup, isB_str_tup, isB_list_tup, isB_tuple_tup, isB_dict_tup, gIs_lst, isB_int_lst, isB_bool_lst, isB_str_lst, isB_list_lst, isB_tuple_lst, isB_dict_lst, gIs_dct, isB_int_dct, isB_bool_dct, isB_str_dct, isB_list_dct, isB_tuple_dct, isB_dict_dct, gNe_tt, gNe_ff, gNe_tf, gNe_ft, gEq_tt, gEq_ff, gIsN_lst, gNotN_lst, gIsN_tup, gNotN_tup, gIsN_str, gNotN_str, gIsN_bl, gNotN_bl, gIsN_dct, gNotN_dct, ↓rest_Dc, isLv_Dc, ↓u_callL, ↓outL_ok, ↓outL_ex, ↓outML_ok, ↓u_methL, ↓methLD_obj, ↓u_callB1, ↓b1A_two, ↓b1D_ali, ↓b1D_fz, ↓u_methB, ↓outMB_ok, isObj_obj, ↓u_fMinD, ↓minK_lst, ↓u_raise2, ↓r2K_two, ↓u_raise1, ↓r1K_one, ↓u_raise0, ↓u_try, kd_int, gDIn_yes, gDIn_no, varK_sqC, sv_sqV, ↓itL_sq, gList_sq, gLen_sq, gSorted_sq, gNe_nil2, gEq_nil2, gEq_LI0, ↓u_par, setAll_nil, setAll_cons, noAli_nil, noAli_fz, noAli_lst, noAli_dct, noAli_obj, gIsB_bl, ↓u_fdget, ↓u_fdcopy, ↓u_fdput, fldD_2, setFD_2, keyO_int, ↓u_dgetN, ↓dgetNK_dct, ↓u_forO, ↓forOC_lst, ↓u_lc2, ↓u_lk, ↓lkO_dct, ↓lkK_lst, noAli_dz, noAli_dz0, noAli_dz1, noAli_dz2, noAli_dz3, ↓u_itK, ↓itKO_dfz, ↓u_dzGet, ↓dzO_dfz, ↓u_join, ↓joinK_some, ↓u_split, ↓splK_str, ↓u_itS, ↓itSK_str, upto_length, Bool.not_true, Bool.not_false, decide_true, decide_false, Option.bind_some, Option.map_some, List.set_cons_zero, List.set_cons_succ, true_and, and_true, List.map_cons, List.map_nil, decide_eq_true_eq, Bool.and_eq_true, List.length_map, List.length_range, List.length_cons, List.length_nil, Nat.zero_add, Nat.reduceAdd, Nat.reduceLT, Nat.reduceLeDiff, Int.reduceToNat, Int.reduceLT, Int.reduceLE, List.getElem?_cons_zero, List.eraseIdx_cons_zero, List.all_cons, List.all_nil, Bool.and_true, Bool.true_and])
theorem lt_line {n : Nat} (h : n ≤ 1000000) : n < sizeLine := Nat.lt_of_le_of_lt h (by decide)
theorem cutA_one {α : Type} (a : α) (lo hi : Option Int) : cutA [a] lo hi = [] ∨ cutA [a] lo hi = [a] := by
  unfold cutA
  generalize HT.sIx [a].length 0 lo = x
  generalize HT.sIx [a].length [a].length hi - x = y
  cases x with
  | zero => cases y <;> simp
  | succ x => left; simp
/-! # nets -/
abbrev Wr := Int × Int × Int
def encW (w : Wr) : D := .tup [.int w.1, .int w.2.1, .int w.2.2]
structure Nt where
  needs : List Int
  roots : List Int
  wires : List Wr
/-- what the laws hand in -/
def Nt.t (N : Nt) : D := .tup [.lst (N.needs.map D.int), .lst (N.roots.map D.int), .lst (N.wires.map encW)]
abbrev Nt.n (N : Nt) : Nat := N.needs.length
structure Nt.ok (N : Nt) : Prop where
  n1 : 1 ≤ N.needs.length
  n10 : N.needs.length ≤ 10
  nd : ∀ x ∈ N.needs, 0 ≤ x ∧ x ≤ 1000000
  rn : N.roots.Nodup
  rr : ∀ s ∈ N.roots, 0 ≤ s ∧ s < N.needs.length
  w10 : N.wires.length ≤ 10
  wr : ∀ w ∈ N.wires, (0 ≤ w.1 ∧ w.1 < N.needs.length) ∧ (0 ≤ w.2.1 ∧ w.2.1 < N.needs.length) ∧ w.1 ≠ w.2.1 ∧ 0 ≤ w.2.2 ∧ w.2.2 ≤ 1000000
@[reducible] def S_Lnet : FSpec := ⟨Dc × Int × Int, some 0, fun a => [a.1.c, .fz (.int a.2.1), .fz (.int a.2.2)], fun a => a.1.ok ∧ 1 ≤ a.2.1 ∧ a.2.1 ≤ 10 ∧ 0 ≤ a.2.2 ∧ a.2.2 ≤ 10,
  fun a o => ∃ (N : Nt) (d : Dc), N.ok ∧ N.needs.length ≤ a.2.1 ∧ N.wires.length ≤ a.2.2 ∧ d.ok ∧ o = .ok (.fz N.t) d.c⟩
def w_Lnet : WS := (wSeq (wSet 3 (w2 fAdd (wC (.int 1)) (wCallB S_Lnext 0 (wCons (wVar 1) wNil)))) (wSeq (wSet 4 (wLc 8 (wRg1 (wCons (wVar 3) wNil)) wYes (wCallB S_Lnext 0 (wCons (wC (.int 5)) wNil)))) (wSeq (wIf (wB (w2 (fS gEq) (wCallB S_Lnext 0 (wCons (wC (.int 8)) wNil)) (wC (.int 7)))) (wSet 4 (wLc 8 (wRg1 (wCons (wVar 3) wNil)) wYes (wCallB S_Lnext 0 (wCons (w2 fAdd (w2 (fS gPow) (wC (.int 10)) (wC (.int 6))) (wC (.int 1))) wNil)))) wSkip) (wSeq (wSet 5 (wSl (wLst (wCons (wCallB S_Lnext 0 (wCons (wVar 3) wNil)) wNil)) wNo (wSo (wCallB S_Lnext 0 (wCons (wC (.int 6)) wNil))))) (wSeq (wIf (wAnd (wB (w2 (fS gGt) (wVar 3) (wC (.int 1)))) (wAnd (wB (w2 (fS gNe) (wVar 5) (wLst wNil))) (wB (w2 (fS gEq) (wCallB S_Lnext 0 (wCons (wC (.int 3)) wNil)) (wC (.int 2)))))) (wExpr (wMeth 5 (wCons (w2 (fS gMod) (w2 fAdd (w2 fAdd (w2 fIx (wVar 5) (wC (.int 0))) (wC (.int 1))) (wCallB S_Lnext 0 (wCons (w2 (fS gSubI) (wVar 3) (wC (.int 1))) wNil))) (wVar 3)) wNil) (mApp 5))) wSkip) (wSeq (wIf (wAnd (wB (w2 (fS gNe) (wVar 5) (wLst wNil))) (wB (w2 (fS gEq) (wCallB S_Lnext 0 (wCons (wC (.int 4)) wNil)) (wC (.int 3))))) (wSet 5 (w2 fAdd (wVar 5) (wLc 8 (wRg1 (wCons (wVar 3) wNil)) (wAnd (wB (w2 (fS (gInU true)) (wVar 8) (wVar 5))) (wB (w2 (fS gEq) (wCallB S_Lnext 0 (wCons (wC (.int 2)) wNil)) (wC (.int 0))))) (wVar 8)))) wSkip) (wSeq (wSet 6 (wLst wNil)) (wSeq (wIf (wB (w2 (fS gGt) (wVar 3) (wC (.int 1)))) (wFor (wRg1 (wCons (wCallB S_Lnext 0 (wCons (w2 fAdd (wVar 2) (wC (.int 1))) wNil)) wNil)) (gN 7) (wSeq (wSet 9 (wCallB S_Lnext 0 (wCons (wVar 3) wNil))) (wSeq (wSet 10 (w2 (fS gMod) (w2 fAdd (w2 fAdd (wVar 9) (wC (.int 1))) (wCallB S_Lnext 0 (wCons (w2 (fS gSubI) (wVar 3) (wC (.int 1))) wNil))) (wVar 3))) (wSeq (wSet 11 (w2 fIx (wLst (wCons (w2 fAdd (wC (.int 10)) (wCallB S_Lnext 0 (wCons (wC (.int 20)) wNil))) (wCons (wCallB S_Lnext 0 (wCons (wC (.int 9)) wNil)) (wCons (w2 (fS gPow) (wC (.int 10)) (wC (.int 6))) wNil)))) (wCallB S_Lnext 0 (wCons (wC (.int 3)) wNil)))) (wExpr (wMeth 6 (wCons (wTup (wCons (wVar 9) (wCons (wVar 10) (wCons (wVar 11) wNil)))) wNil) (mApp 6))))))) wSkip) (wRet (wTup (wCons (wVar 4) (wCons (wVar 5) (wCons (wVar 6) wNil)))))))))))))
/-- draws in a row -/
abbrev AllIn (b : Int) (ns : List Int) : Prop := ∀ x ∈ ns, 0 ≤ x ∧ x < b
theorem mod_ne {a k n : Int} (h0 : 0 ≤ a) (h1 : a < n) (h2 : 0 ≤ k) (h3 : k < n - 1) : 0 ≤ (a + 1 + k) % n ∧ (a + 1 + k) % n < n ∧ a ≠ (a + 1 + k) % n := by
  refine ⟨Int.emod_nonneg _ (by omega), Int.emod_lt_of_pos _ (by omega), fun e => ?_⟩
  by_cases h : a + 1 + k < n
  · rw [Int.emod_eq_of_lt (by omega) h] at e; omega
  · have : (a + 1 + k) % n = a + 1 + k - n := by
      have z := Int.add_mul_emod_self_right (a := a + 1 + k - n) (b := 1) (c := n)
      rw [Int.one_mul, Int.sub_add_cancel] at z
      rw [z, Int.emod_eq_of_lt (by omega) (by omega)]
    omega
theorem draws (c1 c2 c4 c5 c6 c7 c9 c10 c11 : Cell) (m b : Int) (wn : WE) (hw : ∀ ρ K Z, wn ρ K Z = K (.fz (.int b)) ρ) (hb : 0 < b) (hb2 : b ≤ 1000001) (hm : 1 ≤ m) (hm2 : m ≤ 10) (d : Dc) (hd : d.ok) (K : Cell → Env → Prop) (Z : KX)
    (k : ∀ (d' : Dc) (ns : List Int), d'.ok → ns.length = m.toNat → AllIn 1000001 ns → K (.lst (ns.map D.int)) [d'.c, c1, c2, .fz (.int m), c4, c5, c6, c7, .un, c9, c10, c11]) :
    wLc 8 (wRg1 (wCons (wVar 3) wNil)) wYes (wCallB S_Lnext 0 (wCons wn wNil)) [d.c, c1, c2, .fz (.int m), c4, c5, c6, c7, .un, c9, c10, c11] K Z := by
  walk_at "cl"
  refine ⟨small62_of _ (by omega) (by omega), ?_⟩
  refine lcI_intro (fun n acc ρ => n ≤ m.toNat ∧ ∃ (d : Dc) (ns : List Int), d.ok ∧ ns.length = n ∧ AllIn 1000001 ns ∧ acc = ns.map D.int ∧ ρ = [d.c, c1, c2, .fz (.int m), c4, c5, c6, c7, .un, c9, c10, c11]) ⟨Nat.zero_le _, d, [], hd, rfl, (fun _ h => nomatch h), rfl, rfl⟩ ?_ ?_
  · rintro n x acc _ hx ⟨hn, d, ns, hd, hl, hi, rfl, rfl⟩
    have hn' : n < m.toNat := by simpa using (List.getElem?_eq_some_iff.mp hx).1
    walk_at "cl"
    rw [hw]
    walk_at "cl"
    refine call_next hd (by omega) (by omega) fun x d' x0 x1 hd' => ?_
    walk_at "cl"
    refine ⟨lt_line (by omega), hn', d', ns ++ [x], hd', by simp [hl], ?_, by simp, rfl⟩
    intro y hy
    rcases List.mem_append.mp hy with h | h
    · exact hi y h
    · simp at h; omega
  · rintro acc _ ⟨hn, d, ns, hd, hl, hi, rfl, rfl⟩
    walk_at "cl"
    exact k d ns hd (by simpa using hl) hi
/-- sources so far -/
abbrev Src (m : Int) (ss : List Int) : Prop := ss.Nodup ∧ ∀ s ∈ ss, 0 ≤ s ∧ s < m
theorem mem_ints {ds : List Nat} {x : D} {n : Nat} (h : ((ds.map fun k : Nat => (k : Int)).map D.int)[n]? = some x) : ∃ j : Nat, ds[n]? = some j ∧ x = .int j := by
  simp only [List.getElem?_map, Option.map_eq_some_iff] at h
  obtain ⟨_, ⟨j, h1, rfl⟩, rfl⟩ := h
  exact ⟨j, h1, rfl⟩
theorem sem_Lnet (a : Dc × Int × Int) (hp : S_Lnet.pre a) : w_Lnet (S_Lnet.args a ++ List.replicate 9 .un) (endK S_Lnet a) := by
  obtain ⟨d, p, l⟩ := a
  obtain ⟨hd, p1, p2, l1, l2⟩ := hp
  simp only at p1 p2 l1 l2
  show w_Lnet [d.c, .fz (.int p), .fz (.int l), .un, .un, .un, .un, .un, .un, .un, .un, .un] _
  unfold w_Lnet
  refine seq_cut (fun ρ => ∃ (d : Dc) (m : Int), d.ok ∧ 1 ≤ m ∧ m ≤ p ∧ ρ = [d.c, .fz (.int p), .fz (.int l), .fz (.int m), .un, .un, .un, .un, .un, .un, .un, .un]) (fun N hN => ?_) ?_
  · walk_at "cl"
    refine call_next hd (by omega) (by omega) fun x d' x0 x1 hd' => ?_
    walk_at "cl"
    exact hN _ ⟨d', _, hd', by omega, by omega, rfl⟩
  rintro _ ⟨d, m, hd, m1, m2, rfl⟩
  refine seq_cut (fun ρ => ∃ (d : Dc) (ns : List Int), d.ok ∧ ns.length = m.toNat ∧ AllIn 1000001 ns ∧ ρ = [d.c, .fz (.int p), .fz (.int l), .fz (.int m), .lst (ns.map D.int), .un, .un, .un, .un, .un, .un, .un]) (fun N hN => ?_) ?_
  · rw [u_set]
    refine draws _ _ _ _ _ _ _ _ _ m 5 _ (fun _ _ _ => rfl) (by decide) (by decide) m1 (by omega) d hd _ _ fun d' ns h1 h2 h3 => ?_
    walk_at "cl"
    exact hN _ ⟨d', ns, h1, h2, h3, rfl⟩
  rintro _ ⟨d, ns, hd, hl, hi, rfl⟩
  refine seq_cut (fun ρ => ∃ (d : Dc) (ns : List Int), d.ok ∧ ns.length = m.toNat ∧ AllIn 1000001 ns ∧ ρ = [d.c, .fz (.int p), .fz (.int l), .fz (.int m), .lst (ns.map D.int), .un, .un, .un, .un, .un, .un, .un]) (fun N hN => ?_) ?_
  · walk_at "cl"
    refine call_next hd (by omega) (by omega) fun x d' x0 x1 hd' => ?_
    walk_at "cl"
    refine br_intro (fun g => ?_) (fun g => ?_)
    · rw [u_set]
      refine draws _ _ _ _ _ _ _ _ _ m 1000001 _ (fun _ _ _ => by walk_at "cl"; rfl) (by decide) (by decide) m1 (by omega) d' hd' _ _ fun d' ns h1 h2 h3 => ?_
      walk_at "cl"
      exact hN _ ⟨d', ns, h1, h2, h3, rfl⟩
    · walk_at "cl"
      exact hN _ ⟨d', ns, hd', hl, hi, rfl⟩
  rintro _ ⟨d, ns, hd, hl, hi, rfl⟩
  refine seq_cut (fun ρ => ∃ (d : Dc) (ss : List Int), d.ok ∧ (ss = [] ∨ ∃ x, 0 ≤ x ∧ x < m ∧ ss = [x]) ∧ ρ = [d.c, .fz (.int p), .fz (.int l), .fz (.int m), .lst (ns.map D.int), .lst (ss.map D.int), .un, .un, .un, .un, .un, .un]) (fun N hN => ?_) ?_
  · walk_at "cl"
    refine call_next hd (by omega) (by omega) fun x d' x0 x1 hd' => ?_
    walk_at "cl"
    refine call_next hd' (by omega) (by omega) fun y d' y0 y1 hd' => ?_
    walk_at "cl"
    rcases cutA_one (D.int x) none (some y) with e | e
    · rw [e]
      exact hN _ ⟨d', [], hd', .inl rfl, rfl⟩
    · rw [e]
      exact hN _ ⟨d', [x], hd', .inr ⟨x, x0, x1, rfl⟩, rfl⟩
  rintro _ ⟨d, ss, hd, hs, rfl⟩
  refine seq_cut (fun ρ => ∃ (d : Dc) (ss : List Int), d.ok ∧ Src m ss ∧ ss.length ≤ 2 ∧ ρ = [d.c, .fz (.int p), .fz (.int l), .fz (.int m), .lst (ns.map D.int), .lst (ss.map D.int), .un, .un, .un, .un, .un, .un]) (fun N hN => ?_) ?_
  · have small : Src m ss ∧ ss.length ≤ 2 := by
      rcases hs with rfl | ⟨x, a, b, rfl⟩
      · simp [Src]
      · simp [Src, a, b]
    walk_at "cl"
    refine br_intro (fun g1 => ?_) (fun g1 => ?_)
    · walk_at "cl"
      refine br_intro (fun g2 => ?_) (fun g2 => ?_)
      · walk_at "cl"
        refine call_next hd (by omega) (by omega) fun x d' x0 x1 hd' => ?_
        walk_at "cl"
        refine br_intro (fun g3 => ?_) (fun g3 => ?_)
        · rcases hs with rfl | ⟨s, s1, s2, rfl⟩
          · simp at g2
          · have g1' : 1 < m := of_decide_eq_true g1
            walk_at "cl"
            refine call_next hd' (by omega) (by omega) fun y d' y0 y1 hd' => ?_
            walk_at "cl"
            have z := mod_ne s1 s2 y0 y1
            refine ⟨by omega, lt_line (by simp), lt_line (by simp), ?_⟩
            refine hN _ ⟨d', [s, (s + 1 + y) % m], hd', ⟨by simp [z.2.2], ?_⟩, by simp, rfl⟩
            intro q hq
            simp at hq
            omega
        · walk_at "cl"
          exact hN _ ⟨d', ss, hd', small.1, small.2, rfl⟩
      · walk_at "cl"
        exact hN _ ⟨d, ss, hd, small.1, small.2, rfl⟩
    · walk_at "cl"
      exact hN _ ⟨d, ss, hd, small.1, small.2, rfl⟩
  rintro _ ⟨d, ss, hd, hs, hs2, rfl⟩
  refine seq_cut (fun ρ => ∃ (d : Dc) (ss : List Int), d.ok ∧ Src m ss ∧ ρ = [d.c, .fz (.int p), .fz (.int l), .fz (.int m), .lst (ns.map D.int), .lst (ss.map D.int), .un, .un, .un, .un, .un, .un]) (fun N hN => ?_) ?_
  · walk_at "cl"
    refine br_intro (fun g2 => ?_) (fun g2 => ?_)
    · walk_at "cl"
      refine call_next hd (by omega) (by omega) fun x d' x0 x1 hd' => ?_
      walk_at "cl"
      refine br_intro (fun g3 => ?_) (fun g3 => ?_)
      · walk_at "cl"
        refine ⟨small62_of _ (by omega) (by omega), ?_⟩
        refine lcI_intro (fun n acc ρ => n ≤ m.toNat ∧ ∃ (d : Dc) (ks : List Int), d.ok ∧ ks.Nodup ∧ ks.length ≤ n ∧ (∀ k ∈ ks, 0 ≤ k ∧ k < n ∧ k ∉ ss) ∧ acc = ks.map D.int ∧ ρ = [d.c, .fz (.int p), .fz (.int l), .fz (.int m), .lst (ns.map D.int), .lst (ss.map D.int), .un, .un, .un, .un, .un, .un]) ?_ ?_ ?_
        · exact ⟨Nat.zero_le _, d', [], hd', List.nodup_nil, Nat.le_refl _, (fun _ h => nomatch h), rfl, rfl⟩
        · rintro n x acc _ hx ⟨hn, d, ks, hd, k1, k2, k3, rfl, rfl⟩
          obtain ⟨j, hj, rfl⟩ := mem_ints hx
          have hn' : n < m.toNat := by simpa using (List.getElem?_eq_some_iff.mp hj).1
          have ej : j = n := by
            rw [List.getElem?_range hn'] at hj
            exact (Option.some.inj hj).symm
          subst ej
          walk_at "cl"
          refine br_intro (fun g4 => ?_) (fun g4 => ?_)
          · have g4' : (j : Int) ∉ ss := of_decide_eq_true g4
            walk_at "cl"
            refine call_next hd (by omega) (by omega) fun x d' x0 x1 hd' => ?_
            walk_at "cl"
            refine br_intro (fun g5 => ?_) (fun g5 => ?_)
            · walk_at "cl"
              refine ⟨lt_line (by omega), hn', d', ks ++ [(j : Int)], hd', ?_, by simp; omega, ?_, by simp, rfl⟩
              · rw [List.nodup_append]
                refine ⟨k1, by simp, fun a ha b hb => ?_⟩
                simp at hb
                have := k3 a ha
                omega
              · intro q hq
                rcases List.mem_append.mp hq with h | h
                · have := k3 q h
                  exact ⟨this.1, by omega, this.2.2⟩
                · simp at h
                  subst h
                  exact ⟨by omega, by omega, g4'⟩
            · walk_at "cl"
              exact ⟨hn', d', ks, hd', k1, by omega, (fun q hq => ⟨(k3 q hq).1, by have := k3 q hq; omega, (k3 q hq).2.2⟩), rfl, rfl⟩
          · walk_at "cl"
            exact ⟨hn', d, ks, hd, k1, by omega, (fun q hq => ⟨(k3 q hq).1, by have := k3 q hq; omega, (k3 q hq).2.2⟩), rfl, rfl⟩
        · rintro acc _ ⟨hn, d, ks, hd, k1, k2, k3, rfl, rfl⟩
          have k2' : ks.length ≤ m.toNat := by simpa using k2
          have k3' : ∀ k ∈ ks, 0 ≤ k ∧ k < m ∧ k ∉ ss := fun k hk => by
            have := k3 k hk
            simp at this
            exact ⟨this.1, by omega, this.2.2⟩
          walk_at "cl"
          refine ⟨Nat.le_of_lt (lt_line (by omega)), hN _ ⟨d, ss ++ ks, hd, ⟨?_, ?_⟩, by simp⟩⟩
          · rw [List.nodup_append]
            refine ⟨hs.1, k1, fun a ha b hb e => ?_⟩
            subst e
            exact (k3' a hb).2.2 ha
          · intro q hq
            rcases List.mem_append.mp hq with h | h
            · exact hs.2 q h
            · exact ⟨(k3' q h).1, (k3' q h).2.1⟩
      · walk_at "cl"
        exact hN _ ⟨d', ss, hd', hs, rfl⟩
    · walk_at "cl"
      exact hN _ ⟨d, ss, hd, hs, rfl⟩
  rintro _ ⟨d, ss, hd, hs, rfl⟩
  refine seq_cut (fun ρ => ρ = [d.c, .fz (.int p), .fz (.int l), .fz (.int m), .lst (ns.map D.int), .lst (ss.map D.int), .lst [], .un, .un, .un, .un, .un]) (fun N hN => ?_) ?_
  · walk_at "cl"
    exact hN _ rfl
  rintro _ rfl
  refine seq_cut (fun ρ => ∃ (d : Dc) (ws : List Wr) (c7 c9 c10 c11 : Cell), d.ok ∧ (∀ w ∈ ws, (0 ≤ w.1 ∧ w.1 < m) ∧ (0 ≤ w.2.1 ∧ w.2.1 < m) ∧ w.1 ≠ w.2.1 ∧ 0 ≤ w.2.2 ∧ w.2.2 ≤ 1000000) ∧ ws.length ≤ l ∧ ρ = [d.c, .fz (.int p), .fz (.int l), .fz (.int m), .lst (ns.map D.int), .lst (ss.map D.int), .lst (ws.map encW), c7, .un, c9, c10, c11]) (fun N hN => ?_) ?_
  · walk_at "cl"
    refine br_intro (fun g => ?_) (fun g => ?_)
    · have g1' : 1 < m := of_decide_eq_true g
      walk_at "cl"
      refine call_next hd (by omega) (by omega) fun t d' t0 t1 hd' => ?_
      walk_at "cl"
      refine ⟨small62_of _ (by omega) (by omega), ?_⟩
      refine forI_intro (fun n ρ => n ≤ t.toNat ∧ ∃ (d : Dc) (ws : List Wr) (c7 c9 c10 c11 : Cell), d.ok ∧ (∀ w ∈ ws, (0 ≤ w.1 ∧ w.1 < m) ∧ (0 ≤ w.2.1 ∧ w.2.1 < m) ∧ w.1 ≠ w.2.1 ∧ 0 ≤ w.2.2 ∧ w.2.2 ≤ 1000000) ∧ ws.length = n ∧ ρ = [d.c, .fz (.int p), .fz (.int l), .fz (.int m), .lst (ns.map D.int), .lst (ss.map D.int), .lst (ws.map encW), c7, .un, c9, c10, c11]) ⟨Nat.zero_le _, d', [], _, _, _, _, hd', (fun _ h => nomatch h), rfl, rfl⟩ ?_ ?_
      · rintro n x _ hx ⟨hn, d, ws, c7, c9, c10, c11, hd, hw, hwl, rfl⟩
        have hn' : n < t.toNat := by simpa using (List.getElem?_eq_some_iff.mp hx).1
        walk_at "cl"
        refine call_next hd (by omega) (by omega) fun one d' o0 o1 hd' => ?_
        walk_at "cl"
        refine call_next hd' (by omega) (by omega) fun y d' y0 y1 hd' => ?_
        walk_at "cl"
        refine ⟨by omega, ?_⟩
        refine call_next hd' (by omega) (by omega) fun u d' u0 u1 hd' => ?_
        walk_at "cl"
        refine call_next hd' (by omega) (by omega) fun v d' v0 v1 hd' => ?_
        walk_at "cl"
        refine call_next hd' (by omega) (by omega) fun i d' i0 i1 hd' => ?_
        have z := mod_ne o0 o1 y0 y1
        have fin : ∀ lim : Int, 0 ≤ lim ∧ lim ≤ 1000000 → (n + 1 ≤ t.toNat ∧ ∃ (d : Dc) (ws' : List Wr) (c7 c9 c10 c11 : Cell), d.ok ∧ (∀ w ∈ ws', (0 ≤ w.1 ∧ w.1 < m) ∧ (0 ≤ w.2.1 ∧ w.2.1 < m) ∧ w.1 ≠ w.2.1 ∧ 0 ≤ w.2.2 ∧ w.2.2 ≤ 1000000) ∧ ws'.length = n + 1 ∧ [d'.c, .fz (.int p), .fz (.int l), .fz (.int m), .lst (ns.map D.int), .lst (ss.map D.int), .lst (ws.map encW ++ [.tup [.int one, .int ((one + 1 + y) % m), .int lim]]), .fz x, .un, .fz (.int one), .fz (.int ((one + 1 + y) % m)), .fz (.int lim)] = [d.c, .fz (.int p), .fz (.int l), .fz (.int m), .lst (ns.map D.int), .lst (ss.map D.int), .lst (ws'.map encW), c7, .un, c9, c10, c11]) := fun lim hlim => by
          refine ⟨hn', d', ws ++ [(one, (one + 1 + y) % m, lim)], .fz x, .fz (.int one), .fz (.int ((one + 1 + y) % m)), .fz (.int lim), hd', ?_, by simp [hwl], by simp [encW]⟩
          intro w hw'
          rcases List.mem_append.mp hw' with h | h
          · exact hw w h
          · simp at h
            subst h
            exact ⟨⟨o0, o1⟩, ⟨z.1, z.2.1⟩, z.2.2, hlim.1, hlim.2⟩
        have e3 : i = 0 ∨ i = 1 ∨ i = 2 := by omega
        rcases e3 with rfl | rfl | rfl
        · walk_at "cl"
          refine ⟨lt_line (by omega), lt_line (by omega), ?_⟩
          exact fin (10 + u) (by omega)
        · walk_at "cl"
          refine ⟨lt_line (by omega), lt_line (by omega), ?_⟩
          exact fin v (by omega)
        · walk_at "cl"
          refine ⟨lt_line (by omega), lt_line (by omega), ?_⟩
          exact fin 1000000 (by omega)
      · rintro _ ⟨hn, d, ws, c7, c9, c10, c11, hd, hw, hwl, rfl⟩
        simp at hwl
        exact hN _ ⟨d, ws, c7, c9, c10, c11, hd, hw, by omega, rfl⟩
    · walk_at "cl"
      exact hN _ ⟨d, [], _, _, _, _, hd, (fun _ h => nomatch h), by simp; omega, rfl⟩
  rintro _ ⟨d, ws, c7, c9, c10, c11, hd, hw, hwl, rfl⟩
  walk_at "cl"
  have hm : (ns.length : Int) = m := by omega
  refine ⟨⟨ns, ss, ws⟩, d, ⟨by show 1 ≤ ns.length; omega, by show ns.length ≤ 10; omega, fun x hx => ?_, hs.1, fun s h => ?_, by show ws.length ≤ 10; omega, fun w h => ?_⟩, by show (ns.length : Int) ≤ p; omega, hwl, hd, rfl⟩
  · have := hi x hx
    omega
  · show 0 ≤ s ∧ s < (ns.length : Int)
    rw [hm]
    exact hs.2 s h
  · show (0 ≤ w.1 ∧ w.1 < (ns.length : Int)) ∧ (0 ≤ w.2.1 ∧ w.2.1 < (ns.length : Int)) ∧ _
    rw [hm]
    exact hw w h
end CL

namespace CL
open PySem L2
local macro_rules | `(tactic| walk_at "cl") => `(tactic| simp -dsimp only [br_true, br_false, ↓u_seq, ↓u_skip, ↓u_expr, ↓u_if, ↓u_ret, ↓retK_fz, ↓retK_lst, ↓retK_dct, ↓retK_obj, ↓retK_lsc, ↓retK_ali, ↓u_set, ↓rest_fz, ↓rest_lst, ↓rest_dct, ↓rest_obj, ↓rest_lsc, ↓rest_ali, ↓toD_fz, ↓toD_lst, ↓toD_dct, ↓toD_obj, ↓toD_lsc, ↓toD_ali, ↓toDs_nil, ↓toDs_cons, frz_fz, frz_lst, frz_dct, ↓u_var, varK_fz, varK_lst, varK_dct, varK_obj, varK_lsc, ↓u_C, ↓u_nil, ↓u_cons, ↓u_F, ↓u_fS, ↓u_fL, opt_some, opt_if, svs_nil, svs_cons, sv_fz, sv_lst, sv_dct, sv_ali, svO_lst, svO_fz, svO_dct, get0, getS, ↓u_B, ↓u_and, ↓u_or, ↓u_not, ↓u_yes, ↓u_andV, ↓u_orV, ↓u_notV, ↓u_ifE, ↓u_chain, ↓u_tup, ↓u_lst, ↓u_lsc, ↓u_dict0, ↓u_fAdd, ↓add_int, ↓add_str, ↓add_lst, ↓add_tup, ↓u_fMul, ↓mul_int, ↓mul_lst, ↓u_fIx, ↓ix_lst, ↓ix_tup, ↓ix_scr, ↓ix_str, ↓u_fTuple, ↓tup_lst, ↓tup_tup, ↓u_fDGet, ↓dget_dct, ↓u_sl, ↓sl_lst, ↓sl_tup, ↓sl_str, ↓u_no, ↓u_so, ↓u_lput, ↓lputK_int, lputO_lst, ↓u_dput, ↓dputC_fz, dputO_dct, ownL_isL, ownD_isDc, live_isLv, isL_lst, isDc_dct, isLv_lst, isLv_fz, isLv_obj, isLv_dct, isLv_lsc, ↓u_meth, methO_lst, ↓u_app, appO_lst, ↓u_pop, ↓u_popAt, ↓u_clear, ↓u_asg, ↓u_gN, ↓u_gTu, ↓u_gsN, ↓u_gsC, ↓fldV_fz, fldO_obj, ↓fldK_fz, ↓fldK_ali, ↓u_fld, ↓u_callV, ↓outV_ok, ↓outV_ex, ↓u_callB, ↓outB_ok, ↓outB_ex, ↓outM_ok, ↓u_methV, ↓methD_obj, ↓outI_ok, ↓u_make, ↓u_fset, fset_0, fset_1, fset_2, fset_3, fset_4, fset_5, xc_endK, rt_endK, nx_endK, ↓u_for, ↓u_while, ↓u_lc, ↓u_itL, ↓itL_lst, ↓itL_tup, ↓itL_scr, ↓u_itU, ↓itU_tup, ↓u_rg1, ↓u_rg2, ↓u_lrg1, ↓u_lrg2, atI_0, atI_1, atI_2, atI_3, gSub_int, gDiv_int, gMod_int, gPow_18, gPow_6, gLt_int, gLe_int, gGt_int, gGe_int, gMax_int, gMin_int, gNeg_int, gInt_int, gInt_bl, gLen_lst, gLen_tup, gLen_scr, gLen_dct, gLen_str, gList_lst, gList_tup, gRev_lst, gSorted_li, gSorted_ti, gSum_li, gIsN_non, gIsN_int, gNotN_non, gNotN_int, gEq_int, gNe_int, gEq_LI, gNe_LI, gNe_LI0, gIn_int, gNotIn_int, ↓ixN_c0, ↓ixN_c1, ↓ixN_c2, ↓ixN_c3, frz_net, fget_needs, fget_roots, fget_wires, fget_net1, fget_kept, fget_used, fget_net2, fget_begin, fget_dark, fget_first, fget_far, fget_by, fget_net3, fget_state, fget_told, rangeD_upto, gIs_non, isB_int_non, isB_bool_non, isB_str_non, isB_list_non, isB_tuple_non, isB_dict_non, gIs_bl, isB_int_bl, isB_bool_bl, isB_str_bl, isB_list_bl, isB_tuple_bl, isB_dict_bl, gIs_int, isB_int_int, isB_bool_int, isB_str_int, isB_list_int, isB_tuple_int, isB_dict_int, gIs_str, isB_int_str, isB_bool_str, isB_str_str, isB_list_str, isB_tuple_str, isB_dict_str, gIs_tup, isB_int_tup, isB_bool_tup, isB_str_tup, isB_list_tup, isB_tuple_tup, isB_dict_tup, gIs_lst, isB_int_lst, isB_bool_lst, isB_str_lst, isB_list_lst, isB_tuple_lst, isB_dict_lst, gIs_dct, isB_int_dct, isB_bool_dct, isB_str_dct, isB_list_dct, isB_tuple_dct, isB_dict_dct, gNe_tt, gNe_ff, gNe_tf, gNe_ft, gEq_tt, gEq_ff, gIsN_lst, gNotN_lst, gIsN_tup, gNotN_tup, gIsN_str, gNotN_str, gIsN_bl, gNotN_bl, gIsN_dct, gNotN_dct, ↓rest_Dc, isLv_Dc, ↓u_callL, ↓outL_ok, ↓outL_ex, ↓outML_ok, ↓u_methL, ↓methLD_obj, ↓u_callB1, ↓b1A_two, ↓b1D_ali, ↓b1D_fz, ↓u_methB, ↓outMB_ok, isObj_obj, ↓u_fMinD, ↓minK_lst, ↓u_raise2, ↓r2K_two, ↓u_raise1, ↓r1K_one, ↓u_raise0, ↓u_try, kd_int, gDIn_yes, gDIn_no, varK_sqC, sv_sqV, ↓itL_sq, gList_sq, gLen_sq, gSorted_sq, gNe_nil2, gEq_nil2, gEq_LI0, ↓u_par, setAll_nil, setAll_cons, noAli_nil, noAli_fz, noAli_lst, noAli_dct, noAli_obj, gIsB_bl, ↓u_fdget, ↓u_fdcopy, ↓u_fdput, fldD_2, setFD_2, keyO_int, ↓u_dgetN, ↓dgetNK_dct, ↓u_forO, ↓forOC_lst, ↓u_lc2, ↓u_lk, ↓lkO_dct, ↓lkK_lst, noAli_dz, noAli_dz0, noAli_dz1, noAli_dz2, noAli_dz3, ↓u_itK, ↓itKO_dfz, ↓u_dzGet, ↓dzO_dfz, ↓u_join, ↓joinK_some, ↓u_split, ↓splK_str, ↓u_itS, ↓itSK_str, upto_length, Bool.not_true, Bool.not_false, decide_true, decide_false, Option.bind_some, Option.map_some, List.set_cons_zero, List.set_cons_succ, true_and, and_true, List.map_cons, List.map_nil, decide_eq_true_eq, Bool.and_eq_true, List.length_map, List.length_range, List.length_cons, List.length_nil, Nat.zero_add, Nat.reduceAdd, Nat.reduceLT, Nat.reduceLeDiff, Int.reduceToNat, Int.reduceLT, Int.reduceLE, List.getElem?_cons_zero, List.eraseIdx_cons_zero, List.all_cons, List.all_nil, Bool.and_true, Bool.true_and])
/-! # comprehensions over ints -/
theorem lcI_ints {i : Nat} {ns : List Int} {ρ : Env} {t : Env → (Bool → Env → Prop) → Prop} {w : Env → (D → Env → Prop) → Prop} {done : List D → Env → Prop} {t1 : Tk t} {t2 : Tk w} {t3 : Tk done} (tf : Int → Bool) (g : Int → D)
    (hu : ρ[i]? = some .un) (hl : ns.length ≤ 1000000) (h : ∀ x ∈ ns, ∀ KT, KT (tf x) (ρ.set i (.fz (.int x))) → t (ρ.set i (.fz (.int x))) KT)
    (hw : ∀ x ∈ ns, tf x = true → ∀ KD, KD (g x) (ρ.set i (.fz (.int x))) → w (ρ.set i (.fz (.int x))) KD) (k : done ((ns.filter tf).map g) ρ) : lcI i (ns.map D.int) ρ t w done t1 t2 t3 := by
  have hi : i < ρ.length := (List.getElem?_eq_some_iff.mp hu).1
  refine lcI_intro (fun n acc ρ' => n ≤ ns.length ∧ acc = ((ns.take n).filter tf).map g ∧ ρ' = ρ) ⟨Nat.zero_le _, rfl, set_self hu⟩ ?_ ?_
  · rintro n d acc _ hd ⟨hn, rfl, rfl⟩
    obtain ⟨x, hx, rfl⟩ : ∃ x, ns[n]? = some x ∧ D.int x = d := by simpa using hd
    have hlt : n < ns.length := (List.getElem?_eq_some_iff.mp hx).1
    have hm : x ∈ ns := List.mem_of_getElem? hx
    have ts : (ns.take (n + 1)).filter tf = (ns.take n).filter tf ++ if tf x = true then [x] else [] := by
      rw [List.take_succ, hx, List.filter_append]
      simp [List.filter_cons]
    refine ⟨hi, h x hm _ ?_⟩
    refine br_intro (fun g1 => ?_) (fun g1 => ?_)
    · refine hw x hm g1 _ ⟨?_, hlt, ?_, by rw [List.set_set, set_self hu]⟩
      · refine lt_line ?_
        rw [List.length_map]
        exact Nat.le_trans (List.length_filter_le _ _) (by rw [List.length_take]; omega)
      · rw [ts, if_pos g1, List.map_append]
        rfl
    · refine ⟨hlt, ?_, by rw [List.set_set, set_self hu]⟩
      rw [ts, if_neg (by rw [g1]; decide), List.append_nil]
  · rintro acc _ ⟨_, rfl, rfl⟩
    refine ⟨hu, ?_⟩
    rw [List.length_map, List.take_length]
    exact k
theorem filter_true {α : Type} (l : List α) : l.filter (fun _ => true) = l := by simp
/-! # the methods of nets -/
def Nt.d (N : Nt) : D := .obj 0 [.lst (N.needs.map D.int), .lst (N.roots.map D.int), .lst (N.wires.map encW)]
def Nt.srt (N : Nt) : Nt := { N with roots := isrt N.roots }
@[reducible] def S_Net_places : FSpec := ⟨Nt, none, fun N => [.fz N.d], fun N => N.ok, fun N o => o = .ok (.lst ((upto N.n).map D.int)) .un⟩
@[reducible] def S_Net_lines : FSpec := ⟨Nt, none, fun N => [.fz N.d], fun N => N.ok, fun N o => o = .ok (.lst (N.wires.map encW)) .un⟩
@[reducible] def S_Net_sources : FSpec := ⟨Nt, none, fun N => [.fz N.d], fun N => N.ok, fun N o => o = .ok (.lst (N.roots.map D.int)) .un⟩
def w_Net_places : WS := (wRet (wLRg1 (w1 (fS gLen) (wFld 0 "needs" (wVar 0)))))
def w_Net_lines : WS := (wRet (w1 (fL gList) (wFld 0 "wires" (wVar 0))))
def w_Net_sources : WS := (wRet (w1 (fL gList) (wFld 0 "roots" (wVar 0))))
def w_Net_lines_at : WS := (wSeq (wSet 3 (wLst wNil)) (wSeq (wFor (wItL (w1 (fL gSorted) (wVar 2))) (gN 4) (wSeq (wAsg (w2 fIx (wFld 0 "wires" (wVar 0)) (wVar 4)) (gTu 3 (gsC (gN 5) (gsC (gN 6) (gsC (gN 7) gsN))))) (wSeq (wIf (wB (w2 (fS gEq) (wVar 1) (wVar 5))) (wExpr (wMeth 3 (wCons (wTup (wCons (wVar 4) (wCons (wVar 6) wNil))) wNil) (mApp 3))) wSkip) (wIf (wB (w2 (fS gEq) (wVar 1) (wVar 6))) (wExpr (wMeth 3 (wCons (wTup (wCons (wVar 4) (wCons (wVar 5) wNil))) wNil) (mApp 3))) wSkip)))) (wRet (wVar 3))))
theorem sem_Net_places (N : Nt) (hp : S_Net_places.pre N) : w_Net_places (S_Net_places.args N ++ List.replicate 0 .un) (endK S_Net_places N) := by
  have h := hp.n10
  show w_Net_places [.fz (.obj 0 _)] _
  unfold w_Net_places
  walk_at "cl"
  refine ⟨by omega, ?_⟩
  rfl
theorem sem_Net_lines (N : Nt) (hp : S_Net_lines.pre N) : w_Net_lines (S_Net_lines.args N ++ List.replicate 0 .un) (endK S_Net_lines N) := by
  show w_Net_lines [.fz (.obj 0 _)] _
  unfold w_Net_lines
  walk_at "cl"
  rfl
theorem sem_Net_sources (N : Nt) (hp : S_Net_sources.pre N) : w_Net_sources (S_Net_sources.args N ++ List.replicate 0 .un) (endK S_Net_sources N) := by
  show w_Net_sources [.fz (.obj 0 _)] _
  unfold w_Net_sources
  walk_at "cl"
  rfl
/-- a wire, and what a place sees of it -/
def Nt.wire (N : Nt) (l : Int) : Wr := N.wires.getD l.toNat (0, 0, 0)
def sees (w : Wr) (l p : Int) : List (Int × Int) := (if p = w.1 then [(l, w.2.1)] else []) ++ if p = w.2.1 then [(l, w.1)] else []
def linesAt (N : Nt) (p : Int) (some : List Int) : List (Int × Int) := (isrt some).flatMap fun l => sees (N.wire l) l p
def encP (q : Int × Int) : D := .tup [.int q.1, .int q.2]
/-- lines of the net -/
def Nt.ls (N : Nt) (some : List Int) : Prop := (∀ l ∈ some, 0 ≤ l ∧ l < N.wires.length) ∧ some.length ≤ 1000
theorem Nt.wire_at {N : Nt} {l : Int} (h : 0 ≤ l ∧ l < N.wires.length) : N.wires[l.toNat]? = some (N.wire l) ∧ N.wire l ∈ N.wires := by
  have hl : l.toNat < N.wires.length := by omega
  have e : N.wire l = N.wires[l.toNat] := by
    unfold Nt.wire
    rw [List.getD_eq_getElem?_getD, List.getElem?_eq_getElem hl]
    rfl
  exact ⟨by rw [e, List.getElem?_eq_getElem hl], by rw [e]; exact List.getElem_mem hl⟩
theorem Nt.atI {N : Nt} {l : Int} (h : 0 ≤ l ∧ l < N.wires.length) : L2.atI (N.wires.map encW) l = some (encW (N.wire l)) := by
  refine atI_nat h.1 ?_
  rw [List.getElem?_map, (Nt.wire_at h).1]
  rfl
@[reducible] def S_Net_lines_at : FSpec := ⟨Nt × Int × Bool × List Int, none, fun a => [.fz a.1.d, .fz (.int a.2.1), .fz (sq a.2.2.1 a.2.2.2)], fun a => a.1.ok ∧ a.1.ls a.2.2.2, fun a o => o = .ok (.lst ((linesAt a.1 a.2.1 a.2.2.2).map encP)) .un⟩
theorem flatMap_len {α β : Type} {f : α → List β} (h : ∀ a, (f a).length ≤ 2) : ∀ l : List α, (l.flatMap f).length ≤ 2 * l.length
  | [] => by simp
  | a :: r => by
    have := h a
    have := flatMap_len h r
    rw [List.flatMap_cons, List.length_append, List.length_cons]
    omega
theorem sees_len (w : Wr) (l p : Int) : (sees w l p).length ≤ 2 := by
  unfold sees
  split <;> split <;> simp
theorem sem_Net_lines_at (a : Nt × Int × Bool × List Int) (hp : S_Net_lines_at.pre a) : w_Net_lines_at (S_Net_lines_at.args a ++ List.replicate 5 .un) (endK S_Net_lines_at a) := by
  obtain ⟨N, p, b, sm⟩ := a
  obtain ⟨ho, hs, hl⟩ := hp
  simp only at ho hs hl
  have hl' : (isrt sm).length ≤ 1000 := by rw [(isrt_perm sm).length_eq]; exact hl
  have hs' : ∀ l ∈ isrt sm, 0 ≤ l ∧ l < N.wires.length := fun l h => hs l ((isrt_perm sm).mem_iff.mp h)
  show w_Net_lines_at [.fz (.obj 0 _), .fz (.int p), .fz (sq b sm), .un, .un, .un, .un, .un] _
  unfold w_Net_lines_at
  have key : ∀ R : List Int → Env → Prop, R (isrt sm) [.fz (.obj 0 [.lst (N.needs.map D.int), .lst (N.roots.map D.int), .lst (N.wires.map encW)]), .fz (.int p), .fz (sq b sm), .lst [], .un, .un, .un, .un] → True := fun _ _ => trivial
  refine seq_cut (fun ρ => ρ = [.fz (.obj 0 [.lst (N.needs.map D.int), .lst (N.roots.map D.int), .lst (N.wires.map encW)]), .fz (.int p), .fz (sq b sm), .lst [], .un, .un, .un, .un]) (fun M hM => ?_) ?_
  · walk_at "cl"
    exact hM _ rfl
  rintro _ rfl
  walk_at "cl"
  refine forI_intro (fun n ρ => n ≤ (isrt sm).length ∧ ∃ c4 c5 c6 c7, ρ = [.fz (.obj 0 [.lst (N.needs.map D.int), .lst (N.roots.map D.int), .lst (N.wires.map encW)]), .fz (.int p), .fz (sq b sm), .lst ((((isrt sm).take n).flatMap fun l => sees (N.wire l) l p).map encP), c4, c5, c6, c7]) ⟨Nat.zero_le _, _, _, _, _, rfl⟩ ?_ ?_
  · rintro n d _ hd ⟨hn, c4, c5, c6, c7, rfl⟩
    obtain ⟨x, hx, rfl⟩ : ∃ x, (isrt sm)[n]? = some x ∧ D.int x = d := by simpa using hd
    have hlt : n < (isrt sm).length := (List.getElem?_eq_some_iff.mp hx).1
    have hm := hs' x (List.mem_of_getElem? hx)
    have bd : ((((isrt sm).take n).flatMap fun l => sees (N.wire l) l p).map encP).length ≤ 2000 := by
      rw [List.length_map]
      refine Nat.le_trans (flatMap_len (fun a => sees_len _ _ _) _) ?_
      rw [List.length_take]
      omega
    have nxt : (((isrt sm).take (n + 1)).flatMap fun l => sees (N.wire l) l p).map encP = (((isrt sm).take n).flatMap fun l => sees (N.wire l) l p).map encP ++ (sees (N.wire x) x p).map encP := by
      rw [List.take_succ, hx]
      simp
    rw [nxt]
    generalize (((isrt sm).take n).flatMap fun l => sees (N.wire l) l p).map encP = acc at bd
    walk_at "cl"
    rw [Nt.atI hm]
    unfold encW
    unfold sees
    walk_at "cl"
    refine br_intro (fun g => ?_) (fun g => ?_)
    · have g' := of_decide_eq_true g
      walk_at "cl"
      refine ⟨lt_line (by omega), lt_line (by omega), ?_⟩
      refine br_intro (fun f => ?_) (fun f => ?_)
      · have f' := of_decide_eq_true f
        walk_at "cl"
        refine ⟨lt_line (by simp; omega), lt_line (by simp; omega), hlt, ?_⟩
        simp only [if_pos g', if_pos f', List.append_assoc, List.map_append, List.map_cons, List.map_nil, List.cons_append, List.nil_append, List.append_nil, encP]
        exact ⟨_, _, _, _, rfl⟩
      · have f' := of_decide_eq_false f
        walk_at "cl"
        refine ⟨hlt, ?_⟩
        simp only [if_pos g', if_neg f', List.append_assoc, List.map_append, List.map_cons, List.map_nil, List.cons_append, List.nil_append, List.append_nil, encP]
        exact ⟨_, _, _, _, rfl⟩
    · have g' := of_decide_eq_false g
      walk_at "cl"
      refine br_intro (fun f => ?_) (fun f => ?_)
      · have f' := of_decide_eq_true f
        walk_at "cl"
        refine ⟨lt_line (by omega), lt_line (by omega), hlt, ?_⟩
        simp only [if_neg g', if_pos f', List.append_assoc, List.map_append, List.map_cons, List.map_nil, List.cons_append, List.nil_append, List.append_nil, encP]
        exact ⟨_, _, _, _, rfl⟩
      · have f' := of_decide_eq_false f
        walk_at "cl"
        refine ⟨hlt, ?_⟩
        simp only [if_neg g', if_neg f', List.append_assoc, List.map_append, List.map_cons, List.map_nil, List.cons_append, List.nil_append, List.append_nil, encP]
        exact ⟨_, _, _, _, rfl⟩
  · rintro _ ⟨hn, c4, c5, c6, c7, rfl⟩
    rw [List.length_map, List.take_length]
    walk_at "cl"
    rfl
end CL

namespace CL
open PySem L2
local macro_rules | `(tactic| walk_at "cl") => `(tactic| simp -dsimp only [br_true, br_false, ↓u_seq, ↓u_skip, ↓u_expr, ↓u_if, ↓u_ret, ↓retK_fz, ↓retK_lst, ↓retK_dct, ↓retK_obj, ↓retK_lsc, ↓retK_ali, ↓u_set, ↓rest_fz, ↓rest_lst, ↓rest_dct, ↓rest_obj, ↓rest_lsc, ↓rest_ali, ↓toD_fz, ↓toD_lst, ↓toD_dct, ↓toD_obj, ↓toD_lsc, ↓toD_ali, ↓toDs_nil, ↓toDs_cons, frz_fz, frz_lst, frz_dct, ↓u_var, varK_fz, varK_lst, varK_dct, varK_obj, varK_lsc, ↓u_C, ↓u_nil, ↓u_cons, ↓u_F, ↓u_fS, ↓u_fL, opt_some, opt_if, svs_nil, svs_cons, sv_fz, sv_lst, sv_dct, sv_ali, svO_lst, svO_fz, svO_dct, get0, getS, ↓u_B, ↓u_and, ↓u_or, ↓u_not, ↓u_yes, ↓u_andV, ↓u_orV, ↓u_notV, ↓u_ifE, ↓u_chain, ↓u_tup, ↓u_lst, ↓u_lsc, ↓u_dict0, ↓u_fAdd, ↓add_int, ↓add_str, ↓add_lst, ↓add_tup, ↓u_fMul, ↓mul_int, ↓mul_lst, ↓u_fIx, ↓ix_lst, ↓ix_tup, ↓ix_scr, ↓ix_str, ↓u_fTuple, ↓tup_lst, ↓tup_tup, ↓u_fDGet, ↓dget_dct, ↓u_sl, ↓sl_lst, ↓sl_tup, ↓sl_str, ↓u_no, ↓u_so, ↓u_lput, ↓lputK_int, lputO_lst, ↓u_dput, ↓dputC_fz, dputO_dct, ownL_isL, ownD_isDc, live_isLv, isL_lst, isDc_dct, isLv_lst, isLv_fz, isLv_obj, isLv_dct, isLv_lsc, ↓u_meth, methO_lst, ↓u_app, appO_lst, ↓u_pop, ↓u_popAt, ↓u_clear, ↓u_asg, ↓u_gN, ↓u_gTu, ↓u_gsN, ↓u_gsC, ↓fldV_fz, fldO_obj, ↓fldK_fz, ↓fldK_ali, ↓u_fld, ↓u_callV, ↓outV_ok, ↓outV_ex, ↓u_callB, ↓outB_ok, ↓outB_ex, ↓outM_ok, ↓u_methV, ↓methD_obj, ↓outI_ok, ↓u_make, ↓u_fset, fset_0, fset_1, fset_2, fset_3, fset_4, fset_5, xc_endK, rt_endK, nx_endK, ↓u_for, ↓u_while, ↓u_lc, ↓u_itL, ↓itL_lst, ↓itL_tup, ↓itL_scr, ↓u_itU, ↓itU_tup, ↓u_rg1, ↓u_rg2, ↓u_lrg1, ↓u_lrg2, atI_0, atI_1, atI_2, atI_3, gSub_int, gDiv_int, gMod_int, gPow_18, gPow_6, gLt_int, gLe_int, gGt_int, gGe_int, gMax_int, gMin_int, gNeg_int, gInt_int, gInt_bl, gLen_lst, gLen_tup, gLen_scr, gLen_dct, gLen_str, gList_lst, gList_tup, gRev_lst, gSorted_li, gSorted_ti, gSum_li, gIsN_non, gIsN_int, gNotN_non, gNotN_int, gEq_int, gNe_int, gEq_LI, gNe_LI, gNe_LI0, gIn_int, gNotIn_int, ↓ixN_c0, ↓ixN_c1, ↓ixN_c2, ↓ixN_c3, frz_net, fget_needs, fget_roots, fget_wires, fget_net1, fget_kept, fget_used, fget_net2, fget_begin, fget_dark, fget_first, fget_far, fget_by, fget_net3, fget_state, fget_told, rangeD_upto, gIs_non, isB_int_non, isB_bool_non, isB_str_non, isB_list_non, isB_tuple_non, isB_dict_non, gIs_bl, isB_int_bl, isB_bool_bl, isB_str_bl, isB_list_bl, isB_tuple_bl, isB_dict_bl, gIs_int, isB_int_int, isB_bool_int, isB_str_int, isB_list_int, isB_tuple_int, isB_dict_int, gIs_str, isB_int_str, isB_bool_str, isB_str_str, isB_list_str, isB_tuple_str, isB_dict_str, gIs_tup, isB_int_tup, isB_bool_tup, isB_str_tup, isB_list_tup, isB_tuple_tup, isB_dict_tup, gIs_lst, isB_int_lst, isB_bool_lst, isB_str_lst, isB_list_lst, isB_tuple_lst, isB_dict_lst, gIs_dct, isB_int_dct, isB_bool_dct, isB_str_dct, isB_list_dct, isB_tuple_dct, isB_dict_dct, gNe_tt, gNe_ff, gNe_tf, gNe_ft, gEq_tt, gEq_ff, gIsN_lst, gNotN_lst, gIsN_tup, gNotN_tup, gIsN_str, gNotN_str, gIsN_bl, gNotN_bl, gIsN_dct, gNotN_dct, ↓rest_Dc, isLv_Dc, ↓u_callL, ↓outL_ok, ↓outL_ex, ↓outML_ok, ↓u_methL, ↓methLD_obj, ↓u_callB1, ↓b1A_two, ↓b1D_ali, ↓b1D_fz, ↓u_methB, ↓outMB_ok, isObj_obj, ↓u_fMinD, ↓minK_lst, ↓u_raise2, ↓r2K_two, ↓u_raise1, ↓r1K_one, ↓u_raise0, ↓u_try, kd_int, gDIn_yes, gDIn_no, varK_sqC, sv_sqV, ↓itL_sq, gList_sq, gLen_sq, gSorted_sq, gNe_nil2, gEq_nil2, gEq_LI0, ↓u_par, setAll_nil, setAll_cons, noAli_nil, noAli_fz, noAli_lst, noAli_dct, noAli_obj, gIsB_bl, ↓u_fdget, ↓u_fdcopy, ↓u_fdput, fldD_2, setFD_2, keyO_int, ↓u_dgetN, ↓dgetNK_dct, ↓u_forO, ↓forOC_lst, ↓u_lc2, ↓u_lk, ↓lkO_dct, ↓lkK_lst, noAli_dz, noAli_dz0, noAli_dz1, noAli_dz2, noAli_dz3, ↓u_itK, ↓itKO_dfz, ↓u_dzGet, ↓dzO_dfz, ↓u_join, ↓joinK_some, ↓u_split, ↓splK_str, ↓u_itS, ↓itSK_str, upto_length, Bool.not_true, Bool.not_false, decide_true, decide_false, Option.bind_some, Option.map_some, List.set_cons_zero, List.set_cons_succ, true_and, and_true, List.map_cons, List.map_nil, decide_eq_true_eq, Bool.and_eq_true, List.length_map, List.length_range, List.length_cons, List.length_nil, Nat.zero_add, Nat.reduceAdd, Nat.reduceLT, Nat.reduceLeDiff, Int.reduceToNat, Int.reduceLT, Int.reduceLE, List.getElem?_cons_zero, List.eraseIdx_cons_zero, List.all_cons, List.all_nil, Bool.and_true, Bool.true_and])
/-! # lists without repeats -/
theorem nodup_len : ∀ {n : Nat} {l : List Int}, l.Nodup → (∀ x ∈ l, 0 ≤ x ∧ x < (n : Int)) → l.length ≤ n
  | 0, [], _, _ => Nat.le_refl _
  | 0, a :: r, _, h => by have := h a List.mem_cons_self; omega
  | n + 1, l, hn, h => by
    by_cases hm : (n : Int) ∈ l
    · have p := List.perm_cons_erase hm
      have hn' := hn.erase (n : Int)
      have := nodup_len (n := n) hn' fun x hx => by
        have h1 := h x (List.mem_of_mem_erase hx)
        have h2 : x ≠ n := fun e => by
          subst e
          exact (List.Nodup.not_mem_erase hn) hx
        omega
      rw [p.length_eq, List.length_cons]
      omega
    · have := nodup_len (n := n) hn fun x hx => by
        have h1 := h x hx
        have h2 : x ≠ n := fun e => hm (e ▸ hx)
        omega
      omega
theorem take_not_mem {l : List Int} {n : Nat} (hn : l.Nodup) (h : n < l.length) : l[n] ∉ l.take n := fun hm => by
  obtain ⟨i, hi, e⟩ := List.mem_iff_getElem.mp hm
  rw [List.length_take] at hi
  rw [List.getElem_take] at e
  have := (List.getElem_inj hn).mp e
  omega
/-! # a net made, of fit parts -/
def Nt.c (N : Nt) : Cell := .obj 0 [.lst (N.needs.map D.int), .lst (N.roots.map D.int), .lst (N.wires.map encW)]
theorem Nt.frz (N : Nt) : CL.frz N.c = some N.d := rfl
@[reducible] def S_Net_init : FSpec := ⟨Nt, some 0, fun N => [.obj 0 [], .fz (.lst (N.needs.map D.int)), .fz (.lst (N.roots.map D.int)), .fz (.lst (N.wires.map encW))], fun N => N.ok, fun N o => o = .ok (.fz .non) N.srt.c⟩
theorem hna_Net_init : ∀ (N : Nt) r c0, S_Net_init.out N (.ok r c0) → ∀ i, c0 ≠ .ali i := by
  intro N r c0 h i e
  cases h
  cases e
theorem atI_ints {ns : List Int} {k : Nat} {x : Int} (h : ns[k]? = some x) : atI (ns.map D.int) (k : Int) = some (.int x) := by
  refine atI_nat (by omega) ?_
  rw [Int.toNat_natCast, List.getElem?_map, h]
  rfl
theorem atI_wires {ws : List Wr} {k : Nat} {x : Wr} (h : ws[k]? = some x) : atI (ws.map encW) (k : Int) = some (encW x) := by
  refine atI_nat (by omega) ?_
  rw [Int.toNat_natCast, List.getElem?_map, h]
  rfl
theorem cutA_take {α : Type} (xs : List α) (k : Nat) : cutA xs none (some (k : Int)) = xs.take k := by
  unfold cutA
  rw [HT.sIx_none, HT.sIx_nat, List.drop_zero, Nat.sub_zero]
  by_cases h : k ≤ xs.length
  · rw [Nat.min_eq_left h]
  · rw [Nat.min_eq_right (by omega), List.take_of_length_le (Nat.le_refl _), List.take_of_length_le (by omega)]
theorem upto_item {n k : Nat} {d : D} (h : ((upto n).map D.int)[k]? = some d) : k < n ∧ d = .int (k : Int) := by
  have hk : k < n := by simpa using (List.getElem?_eq_some_iff.mp h).1
  rw [List.getElem?_map, upto_get hk] at h
  exact ⟨hk, (Option.some.inj h).symm⟩
def w_Net_init : WS := (wSeq (wIf (wOr (wB (w2 (fS gLt) (w1 (fS gLen) (wVar 1)) (wC (.int 1)))) (wB (w2 (fS gGt) (w1 (fS gLen) (wVar 1)) (wC (.int 10))))) wNever wSkip) (wSeq (wFor (wRg1 (wCons (w1 (fS gLen) (wVar 1)) wNil)) (gN 4) (wIf (wOr (wB (w2 (fS gLt) (w2 fIx (wVar 1) (wVar 4)) (wC (.int 0)))) (wB (w2 (fS gGt) (w2 fIx (wVar 1) (wVar 4)) (wC (.int 1000000))))) wNever wSkip)) (wSeq (wFor (wRg1 (wCons (w1 (fS gLen) (wVar 2)) wNil)) (gN 4) (wIf (wOr (wNot (wB (wChain (fun i j => decide (i ≤ j)) (fun i j => decide (i < j)) (wC (.int 0)) (w2 fIx (wVar 2) (wVar 4)) (w1 (fS gLen) (wVar 1))))) (wB (w2 (fS (gInU false)) (w2 fIx (wVar 2) (wVar 4)) (wSl (wVar 2) wNo (wSo (wVar 4)))))) wNever wSkip)) (wSeq (wIf (wB (w2 (fS gGt) (w1 (fS gLen) (wVar 3)) (wC (.int 10)))) wNever wSkip) (wSeq (wFor (wRg1 (wCons (w1 (fS gLen) (wVar 3)) wNil)) (gN 4) (wSeq (wAsg (w2 fIx (wVar 3) (wVar 4)) (gTu 3 (gsC (gN 5) (gsC (gN 6) (gsC (gN 7) gsN))))) (wSeq (wIf (wOr (wNot (wB (wChain (fun i j => decide (i ≤ j)) (fun i j => decide (i < j)) (wC (.int 0)) (wVar 5) (w1 (fS gLen) (wVar 1))))) (wOr (wNot (wB (wChain (fun i j => decide (i ≤ j)) (fun i j => decide (i < j)) (wC (.int 0)) (wVar 6) (w1 (fS gLen) (wVar 1))))) (wB (w2 (fS gEq) (wVar 5) (wVar 6))))) wNever wSkip) (wIf (wOr (wB (w2 (fS gLt) (wVar 7) (wC (.int 0)))) (wB (w2 (fS gGt) (wVar 7) (wC (.int 1000000))))) wNever wSkip)))) (wSeq (wFSet 0 0 0 (w1 (fL gList) (wVar 1))) (wSeq (wFSet 0 0 1 (w1 (fL gSorted) (wVar 2))) (wFSet 0 0 2 (w1 (fL gList) (wVar 3))))))))))
theorem sem_Net_init (N : Nt) (hp : S_Net_init.pre N) : w_Net_init (S_Net_init.args N ++ List.replicate 4 .un) (endK S_Net_init N) := by
  have n1 := hp.n1
  have n10 := hp.n10
  show w_Net_init [.obj 0 [], .fz (.lst (N.needs.map D.int)), .fz (.lst (N.roots.map D.int)), .fz (.lst (N.wires.map encW)), .un, .un, .un, .un] _
  unfold w_Net_init
  refine seq_cut (fun ρ => ρ = [.obj 0 [], .fz (.lst (N.needs.map D.int)), .fz (.lst (N.roots.map D.int)), .fz (.lst (N.wires.map encW)), .un, .un, .un, .un]) (fun M hM => ?_) ?_
  · walk_at "cl"
    refine br_f (by simp; omega) ?_
    walk_at "cl"
    refine br_f (by simp; omega) ?_
    walk_at "cl"
    exact hM _ rfl
  rintro _ rfl
  refine seq_cut (fun ρ => ∃ c, ρ = [.obj 0 [], .fz (.lst (N.needs.map D.int)), .fz (.lst (N.roots.map D.int)), .fz (.lst (N.wires.map encW)), c, .un, .un, .un]) (fun M hM => ?_) ?_
  · walk_at "cl"
    refine ⟨small62_of _ (by omega) (by omega), ?_⟩
    refine forI_intro (fun n ρ => ∃ c, ρ = [.obj 0 [], .fz (.lst (N.needs.map D.int)), .fz (.lst (N.roots.map D.int)), .fz (.lst (N.wires.map encW)), c, .un, .un, .un]) ⟨_, rfl⟩ ?_ ?_
    · rintro n d _ hd ⟨c, rfl⟩
      obtain ⟨hn, rfl⟩ := upto_item hd
      rw [Int.toNat_natCast] at hn
      have hx := List.getElem?_eq_getElem hn
      have hb := hp.nd _ (List.getElem_mem hn)
      walk_at "cl"
      rw [atI_ints hx]
      walk_at "cl"
      refine br_f (by simp; omega) ?_
      walk_at "cl"
      rw [atI_ints hx]
      walk_at "cl"
      refine br_f (by simp; omega) ?_
      walk_at "cl"
      exact ⟨_, rfl⟩
    · rintro _ ⟨c, rfl⟩
      exact hM _ ⟨c, rfl⟩
  rintro _ ⟨c, rfl⟩
  refine seq_cut (fun ρ => ∃ c, ρ = [.obj 0 [], .fz (.lst (N.needs.map D.int)), .fz (.lst (N.roots.map D.int)), .fz (.lst (N.wires.map encW)), c, .un, .un, .un]) (fun M hM => ?_) ?_
  · have hrl : N.roots.length ≤ 10 := Nat.le_trans (nodup_len hp.rn hp.rr) n10
    walk_at "cl"
    refine ⟨small62_of _ (by omega) (by omega), ?_⟩
    refine forI_intro (fun n ρ => ∃ c, ρ = [.obj 0 [], .fz (.lst (N.needs.map D.int)), .fz (.lst (N.roots.map D.int)), .fz (.lst (N.wires.map encW)), c, .un, .un, .un]) ⟨_, rfl⟩ ?_ ?_
    · rintro n d _ hd ⟨c, rfl⟩
      obtain ⟨hn, rfl⟩ := upto_item hd
      rw [Int.toNat_natCast] at hn
      have hx := List.getElem?_eq_getElem hn
      have hb := hp.rr _ (List.getElem_mem hn)
      walk_at "cl"
      rw [atI_ints hx]
      walk_at "cl"
      refine br_t (by simp; omega) ?_
      walk_at "cl"
      refine br_f (by simp; omega) ?_
      walk_at "cl"
      rw [atI_ints hx]
      walk_at "cl"
      rw [cutA_take, ← List.map_take, gIn_int]
      walk_at "cl"
      refine br_f ?_ ?_
      · rw [decide_eq_false_iff_not]
        exact take_not_mem hp.rn hn
      walk_at "cl"
      exact ⟨_, rfl⟩
    · rintro _ ⟨c, rfl⟩
      exact hM _ ⟨c, rfl⟩
  rintro _ ⟨c, rfl⟩
  have w10 := hp.w10
  refine seq_cut (fun ρ => ρ = [.obj 0 [], .fz (.lst (N.needs.map D.int)), .fz (.lst (N.roots.map D.int)), .fz (.lst (N.wires.map encW)), c, .un, .un, .un]) (fun M hM => ?_) ?_
  · walk_at "cl"
    refine br_f (by simp; omega) ?_
    walk_at "cl"
    exact hM _ rfl
  rintro _ rfl
  refine seq_cut (fun ρ => ∃ c c5 c6 c7, ρ = [.obj 0 [], .fz (.lst (N.needs.map D.int)), .fz (.lst (N.roots.map D.int)), .fz (.lst (N.wires.map encW)), c, c5, c6, c7]) (fun M hM => ?_) ?_
  · walk_at "cl"
    refine ⟨small62_of _ (by omega) (by omega), ?_⟩
    refine forI_intro (fun n ρ => ∃ c c5 c6 c7, ρ = [.obj 0 [], .fz (.lst (N.needs.map D.int)), .fz (.lst (N.roots.map D.int)), .fz (.lst (N.wires.map encW)), c, c5, c6, c7]) ⟨_, _, _, _, rfl⟩ ?_ ?_
    · rintro n d _ hd ⟨c, c5, c6, c7, rfl⟩
      obtain ⟨hn, rfl⟩ := upto_item hd
      rw [Int.toNat_natCast] at hn
      have hx := List.getElem?_eq_getElem hn
      have hb := hp.wr _ (List.getElem_mem hn)
      generalize N.wires[n] = w at hx hb
      walk_at "cl"
      rw [atI_wires hx]
      unfold encW
      walk_at "cl"
      refine br_t (by simp; omega) ?_
      walk_at "cl"
      refine br_f (by simp; omega) ?_
      walk_at "cl"
      refine br_t (by simp; omega) ?_
      walk_at "cl"
      refine br_f (by simp; omega) ?_
      walk_at "cl"
      refine br_f (by simp; omega) ?_
      walk_at "cl"
      refine br_f (by simp; omega) ?_
      walk_at "cl"
      refine br_f (by simp; omega) ?_
      walk_at "cl"
      exact ⟨_, _, _, _, rfl⟩
    · rintro _ ⟨c, c5, c6, c7, rfl⟩
      exact hM _ ⟨c, c5, c6, c7, rfl⟩
  rintro _ ⟨c, c5, c6, c7, rfl⟩
  walk_at "cl"
  rfl
end CL

namespace CL
open PySem L2
local macro_rules | `(tactic| walk_at "cl") => `(tactic| simp -dsimp only [br_true, br_false, ↓u_seq, ↓u_skip, ↓u_expr, ↓u_if, ↓u_ret, ↓retK_fz, ↓retK_lst, ↓retK_dct, ↓retK_obj, ↓retK_lsc, ↓retK_ali, ↓u_set, ↓rest_fz, ↓rest_lst, ↓rest_dct, ↓rest_obj, ↓rest_lsc, ↓rest_ali, ↓toD_fz, ↓toD_lst, ↓toD_dct, ↓toD_obj, ↓toD_lsc, ↓toD_ali, ↓toDs_nil, ↓toDs_cons, frz_fz, frz_lst, frz_dct, ↓u_var, varK_fz, varK_lst, varK_dct, varK_obj, varK_lsc, ↓u_C, ↓u_nil, ↓u_cons, ↓u_F, ↓u_fS, ↓u_fL, opt_some, opt_if, svs_nil, svs_cons, sv_fz, sv_lst, sv_dct, sv_ali, svO_lst, svO_fz, svO_dct, get0, getS, ↓u_B, ↓u_and, ↓u_or, ↓u_not, ↓u_yes, ↓u_andV, ↓u_orV, ↓u_notV, ↓u_ifE, ↓u_chain, ↓u_tup, ↓u_lst, ↓u_lsc, ↓u_dict0, ↓u_fAdd, ↓add_int, ↓add_str, ↓add_lst, ↓add_tup, ↓u_fMul, ↓mul_int, ↓mul_lst, ↓u_fIx, ↓ix_lst, ↓ix_tup, ↓ix_scr, ↓ix_str, ↓u_fTuple, ↓tup_lst, ↓tup_tup, ↓u_fDGet, ↓dget_dct, ↓u_sl, ↓sl_lst, ↓sl_tup, ↓sl_str, ↓u_no, ↓u_so, ↓u_lput, ↓lputK_int, lputO_lst, ↓u_dput, ↓dputC_fz, dputO_dct, ownL_isL, ownD_isDc, live_isLv, isL_lst, isDc_dct, isLv_lst, isLv_fz, isLv_obj, isLv_dct, isLv_lsc, ↓u_meth, methO_lst, ↓u_app, appO_lst, ↓u_pop, ↓u_popAt, ↓u_clear, ↓u_asg, ↓u_gN, ↓u_gTu, ↓u_gsN, ↓u_gsC, ↓fldV_fz, fldO_obj, ↓fldK_fz, ↓fldK_ali, ↓u_fld, ↓u_callV, ↓outV_ok, ↓outV_ex, ↓u_callB, ↓outB_ok, ↓outB_ex, ↓outM_ok, ↓u_methV, ↓methD_obj, ↓outI_ok, ↓u_make, ↓u_fset, fset_0, fset_1, fset_2, fset_3, fset_4, fset_5, xc_endK, rt_endK, nx_endK, ↓u_for, ↓u_while, ↓u_lc, ↓u_itL, ↓itL_lst, ↓itL_tup, ↓itL_scr, ↓u_itU, ↓itU_tup, ↓u_rg1, ↓u_rg2, ↓u_lrg1, ↓u_lrg2, atI_0, atI_1, atI_2, atI_3, gSub_int, gDiv_int, gMod_int, gPow_18, gPow_6, gLt_int, gLe_int, gGt_int, gGe_int, gMax_int, gMin_int, gNeg_int, gInt_int, gInt_bl, gLen_lst, gLen_tup, gLen_scr, gLen_dct, gLen_str, gList_lst, gList_tup, gRev_lst, gSorted_li, gSorted_ti, gSum_li, gIsN_non, gIsN_int, gNotN_non, gNotN_int, gEq_int, gNe_int, gEq_LI, gNe_LI, gNe_LI0, gIn_int, gNotIn_int, ↓ixN_c0, ↓ixN_c1, ↓ixN_c2, ↓ixN_c3, frz_net, fget_needs, fget_roots, fget_wires, fget_net1, fget_kept, fget_used, fget_net2, fget_begin, fget_dark, fget_first, fget_far, fget_by, fget_net3, fget_state, fget_told, rangeD_upto, gIs_non, isB_int_non, isB_bool_non, isB_str_non, isB_list_non, isB_tuple_non, isB_dict_non, gIs_bl, isB_int_bl, isB_bool_bl, isB_str_bl, isB_list_bl, isB_tuple_bl, isB_dict_bl, gIs_int, isB_int_int, isB_bool_int, isB_str_int, isB_list_int, isB_tuple_int, isB_dict_int, gIs_str, isB_int_str, isB_bool_str, isB_str_str, isB_list_str, isB_tuple_str, isB_dict_str, gIs_tup, isB_int_tup, isB_bool_tup, isB_str_tup, isB_list_tup, isB_tuple_tup, isB_dict_tup, gIs_lst, isB_int_lst, isB_bool_lst, isB_str_lst, isB_list_lst, isB_tuple_lst, isB_dict_lst, gIs_dct, isB_int_dct, isB_bool_dct, isB_str_dct, isB_list_dct, isB_tuple_dct, isB_dict_dct, gNe_tt, gNe_ff, gNe_tf, gNe_ft, gEq_tt, gEq_ff, gIsN_lst, gNotN_lst, gIsN_tup, gNotN_tup, gIsN_str, gNotN_str, gIsN_bl, gNotN_bl, gIsN_dct, gNotN_dct, ↓rest_Dc, isLv_Dc, ↓u_callL, ↓outL_ok, ↓outL_ex, ↓outML_ok, ↓u_methL, ↓methLD_obj, ↓u_callB1, ↓b1A_two, ↓b1D_ali, ↓b1D_fz, ↓u_methB, ↓outMB_ok, isObj_obj, ↓u_fMinD, ↓minK_lst, ↓u_raise2, ↓r2K_two, ↓u_raise1, ↓r1K_one, ↓u_raise0, ↓u_try, kd_int, gDIn_yes, gDIn_no, varK_sqC, sv_sqV, ↓itL_sq, gList_sq, gLen_sq, gSorted_sq, gNe_nil2, gEq_nil2, gEq_LI0, ↓u_par, setAll_nil, setAll_cons, noAli_nil, noAli_fz, noAli_lst, noAli_dct, noAli_obj, gIsB_bl, ↓u_fdget, ↓u_fdcopy, ↓u_fdput, fldD_2, setFD_2, keyO_int, ↓u_dgetN, ↓dgetNK_dct, ↓u_forO, ↓forOC_lst, ↓u_lc2, ↓u_lk, ↓lkO_dct, ↓lkK_lst, noAli_dz, noAli_dz0, noAli_dz1, noAli_dz2, noAli_dz3, ↓u_itK, ↓itKO_dfz, ↓u_dzGet, ↓dzO_dfz, ↓u_join, ↓joinK_some, ↓u_split, ↓splK_str, ↓u_itS, ↓itSK_str, upto_length, Bool.not_true, Bool.not_false, decide_true, decide_false, Option.bind_some, Option.map_some, List.set_cons_zero, List.set_cons_succ, true_and, and_true, List.map_cons, List.map_nil, decide_eq_true_eq, Bool.and_eq_true, List.length_map, List.length_range, List.length_cons, List.length_nil, Nat.zero_add, Nat.reduceAdd, Nat.reduceLT, Nat.reduceLeDiff, Int.reduceToNat, Int.reduceLT, Int.reduceLE, List.getElem?_cons_zero, List.eraseIdx_cons_zero, List.all_cons, List.all_nil, Bool.and_true, Bool.true_and])
/-! # what is reached -/
def Nt.adj (N : Nt) (sm : List Int) (p q : Int) : Prop := ∃ l ∈ sm, (p = (N.wire l).1 ∧ q = (N.wire l).2.1) ∨ (p = (N.wire l).2.1 ∧ q = (N.wire l).1)
inductive Rch (N : Nt) (sm bg : List Int) : Int → Prop
  | base {p : Int} : p ∈ bg → Rch N sm bg p
  | step {p q : Int} : Rch N sm bg p → N.adj sm p q → Rch N sm bg q
open Classical in
noncomputable def reachL (N : Nt) (sm bg : List Int) : List Int := (upto N.n).filter fun p => decide (Rch N sm bg p)
theorem upto_sorted (n : Nat) : (upto n).Pairwise (· < ·) := by
  unfold upto
  rw [List.pairwise_map]
  exact List.pairwise_lt_range.imp fun h => by omega
theorem mem_reachL {N : Nt} {sm bg : List Int} {p : Int} : p ∈ reachL N sm bg ↔ (0 ≤ p ∧ p < N.n) ∧ Rch N sm bg p := by
  unfold reachL
  rw [List.mem_filter, mem_upto]
  simp
theorem reachL_lt (N : Nt) (sm bg : List Int) : (reachL N sm bg).Pairwise (· < ·) := (upto_sorted _).sublist List.filter_sublist
theorem reachL_nodup (N : Nt) (sm bg : List Int) : (reachL N sm bg).Nodup := (reachL_lt N sm bg).imp fun h e => by omega
theorem lt_unique : ∀ {l m : List Int}, l.Pairwise (· < ·) → m.Pairwise (· < ·) → (∀ x, x ∈ l ↔ x ∈ m) → l = m
  | [], [], _, _, _ => rfl
  | [], b :: m, _, _, h => absurd ((h b).mpr List.mem_cons_self) (by simp)
  | a :: l, [], _, _, h => absurd ((h a).mp List.mem_cons_self) (by simp)
  | a :: l, b :: m, hl, hm, h => by
    have h1 := List.pairwise_cons.mp hl
    have h2 := List.pairwise_cons.mp hm
    have ab : a = b := by
      rcases List.mem_cons.mp ((h a).mp List.mem_cons_self) with e | e
      · exact e
      · rcases List.mem_cons.mp ((h b).mpr List.mem_cons_self) with f | f
        · exact f.symm
        · have := h2.1 a e
          have := h1.1 b f
          omega
    subst ab
    rw [lt_unique h1.2 h2.2 fun x => ⟨fun hx => ?_, fun hx => ?_⟩]
    · rcases List.mem_cons.mp ((h x).mp (List.mem_cons_of_mem _ hx)) with e | e
      · subst e; have := h1.1 x hx; omega
      · exact e
    · rcases List.mem_cons.mp ((h x).mpr (List.mem_cons_of_mem _ hx)) with e | e
      · subst e; have := h2.1 x hx; omega
      · exact e
theorem le_nodup_lt : ∀ {l : List Int}, l.Pairwise (· ≤ ·) → l.Nodup → l.Pairwise (· < ·)
  | [], _, _ => .nil
  | a :: r, h, n => by
    have h1 := List.pairwise_cons.mp h
    have n1 := List.nodup_cons.mp n
    refine List.pairwise_cons.mpr ⟨fun x hx => ?_, le_nodup_lt h1.2 n1.2⟩
    have := h1.1 x hx
    have : a ≠ x := fun e => n1.1 (e ▸ hx)
    omega
theorem Nt.adj_in {N : Nt} (ho : N.ok) {sm : List Int} (hs : ∀ l ∈ sm, 0 ≤ l ∧ l < N.wires.length) {p q : Int} (h : N.adj sm p q) : (0 ≤ p ∧ p < N.n) ∧ 0 ≤ q ∧ q < N.n := by
  obtain ⟨l, hl, h⟩ := h
  have w := ho.wr _ (Nt.wire_at (hs l hl)).2
  rcases h with ⟨rfl, rfl⟩ | ⟨rfl, rfl⟩
  · exact ⟨w.1, w.2.1⟩
  · exact ⟨w.2.1, w.1⟩
theorem Nt.adj_symm {N : Nt} {sm : List Int} {p q : Int} (h : N.adj sm p q) : N.adj sm q p := by
  obtain ⟨l, hl, ⟨a, b⟩ | ⟨a, b⟩⟩ := h
  · exact ⟨l, hl, .inr ⟨b, a⟩⟩
  · exact ⟨l, hl, .inl ⟨b, a⟩⟩
theorem mem_linesAt {N : Nt} {p : Int} {sm : List Int} {q : Int} : (∃ l, (l, q) ∈ linesAt N p sm) ↔ N.adj sm p q := by
  unfold linesAt Nt.adj sees
  simp only [List.mem_flatMap, List.mem_append]
  constructor
  · rintro ⟨l, l', hl, h⟩
    refine ⟨l', (isrt_perm sm).mem_iff.mp hl, ?_⟩
    rcases h with h | h
    · split at h
      · simp at h; exact .inl ⟨by assumption, h.2⟩
      · simp at h
    · split at h
      · simp at h; exact .inr ⟨by assumption, h.2⟩
      · simp at h
  · rintro ⟨l, hl, h⟩
    refine ⟨l, l, (isrt_perm sm).mem_iff.mpr hl, ?_⟩
    rcases h with ⟨rfl, rfl⟩ | ⟨rfl, rfl⟩
    · left; simp
    · right; simp
theorem Rch.in_ {N : Nt} (ho : N.ok) {sm bg : List Int} (hs : ∀ l ∈ sm, 0 ≤ l ∧ l < N.wires.length) (hb : ∀ b ∈ bg, 0 ≤ b ∧ b < N.n) {p : Int} (h : Rch N sm bg p) : 0 ≤ p ∧ p < N.n := by
  cases h with
  | base h => exact hb _ h
  | step _ h => exact (Nt.adj_in ho hs h).2
@[reducible] def S_reached : FSpec := ⟨Nt × (Bool × List Int) × List Int, none, fun a => [.fz a.1.d, .fz (sq a.2.1.1 a.2.1.2), .fz (.lst (a.2.2.map D.int))], fun a => a.1.ok ∧ a.1.ls a.2.1.2 ∧ a.2.2.Nodup ∧ ∀ b ∈ a.2.2, 0 ≤ b ∧ b < a.1.n,
  fun a o => o = .ok (.lst ((reachL a.1 a.2.1.2 a.2.2).map D.int)) .un⟩
def w_reached : WS := (wSeq (wSet 3 (w1 (fL gList) (wVar 2))) (wSeq (wSet 4 (w1 (fL gList) (wVar 2))) (wSeq (wWhile (wB (w2 (fS gNe) (wVar 4) (wLst wNil))) (wSeq (wSet 5 (wMeth 4 wNil (mPop 4))) (wFor (wItL (wMethV 0 S_Net_lines_at (wVar 0) (wCons (wVar 5) (wCons (wVar 1) wNil)))) (gTu 2 (gsC (gN 6) (gsC (gN 7) gsN))) (wIf (wB (w2 (fS (gInU true)) (wVar 7) (wVar 3))) (wSeq (wExpr (wMeth 3 (wCons (wVar 7) wNil) (mApp 3))) (wExpr (wMeth 4 (wCons (wVar 7) wNil) (mApp 4)))) wSkip)))) (wRet (w1 (fL gSorted) (wVar 3))))))
theorem sem_reached (a : Nt × (Bool × List Int) × List Int) (hp : S_reached.pre a) : w_reached (S_reached.args a ++ List.replicate 5 .un) (endK S_reached a) := by
  obtain ⟨N, ⟨b, sm⟩, bg⟩ := a
  obtain ⟨ho, hs, hn, hb⟩ := hp
  simp only at ho hs hn hb
  show w_reached [.fz N.d, .fz (sq b sm), .fz (.lst (bg.map D.int)), .un, .un, .un, .un, .un] _
  unfold w_reached
  refine seq_cut (fun ρ => ρ = [.fz N.d, .fz (sq b sm), .fz (.lst (bg.map D.int)), .lst (bg.map D.int), .un, .un, .un, .un]) (fun M hM => ?_) ?_
  · walk_at "cl"
    exact hM _ rfl
  rintro _ rfl
  refine seq_cut (fun ρ => ρ = [.fz N.d, .fz (sq b sm), .fz (.lst (bg.map D.int)), .lst (bg.map D.int), .lst (bg.map D.int), .un, .un, .un]) (fun M hM => ?_) ?_
  · walk_at "cl"
    exact hM _ rfl
  rintro _ rfl
  -- found, waiting
  refine seq_cut (fun ρ => ∃ (fd : List Int) (c4 c5 c6 c7 : Cell), fd.Nodup ∧ (∀ x, x ∈ fd ↔ Rch N sm bg x) ∧ ρ = [.fz N.d, .fz (sq b sm), .fz (.lst (bg.map D.int)), .lst (fd.map D.int), c4, c5, c6, c7]) (fun M hM => ?_) ?_
  · walk_at "cl"
    refine whileI_intro (fun m ρ => ∃ (fd wt : List Int) (c5 c6 c7 : Cell), fd.Nodup ∧ (∀ x ∈ fd, Rch N sm bg x) ∧ (∀ x ∈ bg, x ∈ fd) ∧ (∀ x ∈ wt, x ∈ fd) ∧ wt.length ≤ fd.length ∧ (∀ p ∈ fd, p ∉ wt → ∀ q, N.adj sm p q → q ∈ fd) ∧ m + 2 * fd.length = 2 * N.n + wt.length ∧ ρ = [.fz N.d, .fz (sq b sm), .fz (.lst (bg.map D.int)), .lst (fd.map D.int), .lst (wt.map D.int), c5, c6, c7]) (2 * N.n - bg.length) ?_ ?_
    · have := nodup_len hn hb
      exact ⟨bg, bg, _, _, _, hn, fun x hx => .base hx, fun x hx => hx, fun x hx => hx, Nat.le_refl _, fun p hp hq => absurd hp hq, by omega, rfl⟩
    · rintro m _ ⟨fd, wt, c5, c6, c7, h1, h2, h3, h4, hw, h5, h6, rfl⟩
      have inr : ∀ x ∈ fd, 0 ≤ x ∧ x < N.n := fun x hx => (h2 x hx).in_ ho hs.1 hb
      walk_at "cl"
      refine br_intro (fun g => ?_) (fun g => ?_)
      · have g' : wt ≠ [] := of_decide_eq_true g
        obtain ⟨w0, here, rfl⟩ : ∃ w0 h, wt = w0 ++ [h] := ⟨_, _, (List.dropLast_concat_getLast g').symm⟩
        have e1 : ((w0 ++ [here]).map D.int)[(w0 ++ [here]).length - 1]? = some (.int here) := by simp
        have e2 : ((w0 ++ [here]).map D.int).dropLast = w0.map D.int := by simp
        have hh : here ∈ fd := h4 _ (by simp)
        refine seq_cut (fun ρ => ρ = [.fz N.d, .fz (sq b sm), .fz (.lst (bg.map D.int)), .lst (fd.map D.int), .lst (w0.map D.int), .fz (.int here), c6, c7]) (fun M hM => ?_) ?_
        · walk_at "cl"
          rw [e1]
          walk_at "cl"
          rw [e2]
          exact hM _ rfl
        rintro _ rfl
        walk_at "cl"
        unfold Nt.d
        walk_at "cl"
        refine call_intro (N, here, b, sm) rfl ⟨ho, hs⟩ ?_
        rintro _ rfl
        walk_at "cl"
        refine forI_intro (fun n ρ => n ≤ (linesAt N here sm).length ∧ ∃ (fd' wt' : List Int) (c6 c7 : Cell), fd'.Nodup ∧ (∀ x ∈ fd', Rch N sm bg x) ∧ (∀ x ∈ fd, x ∈ fd') ∧ (∀ x ∈ wt', x ∈ fd') ∧ (∀ x ∈ w0, x ∈ wt') ∧ (∀ p ∈ fd', p ∈ fd ∨ p ∈ wt') ∧ (∀ q ∈ (linesAt N here sm).take n, q.2 ∈ fd') ∧ fd'.length + w0.length = fd.length + wt'.length ∧ fd.length ≤ fd'.length ∧ ρ = [.fz N.d, .fz (sq b sm), .fz (.lst (bg.map D.int)), .lst (fd'.map D.int), .lst (wt'.map D.int), .fz (.int here), c6, c7]) ?_ ?_ ?_
        · exact ⟨Nat.zero_le _, fd, w0, _, _, h1, h2, fun x hx => hx, fun x hx => h4 x (by simp [hx]), fun x hx => hx, fun p hp => .inl hp, (fun _ h => by simp at h), rfl, Nat.le_refl _, rfl⟩
        · rintro n d _ hd ⟨hn, fd', wt', c6, c7, f1, f2, f3, f4, f5, f6, f7, f8, ll, rfl⟩
          obtain ⟨⟨l, q⟩, hx, rfl⟩ : ∃ x, (linesAt N here sm)[n]? = some x ∧ encP x = d := by simpa using hd
          have hlt : n < (linesAt N here sm).length := (List.getElem?_eq_some_iff.mp hx).1
          have hq : N.adj sm here q := mem_linesAt.mp ⟨l, List.mem_of_getElem? hx⟩
          have fl := nodup_len f1 fun x hx => (f2 x hx).in_ ho hs.1 hb
          have n10 := ho.n10
          have tk : (linesAt N here sm).take (n + 1) = (linesAt N here sm).take n ++ [(l, q)] := by rw [List.take_succ, hx]; rfl
          rw [tk]
          unfold encP
          walk_at "cl"
          refine br_intro (fun g => ?_) (fun g => ?_)
          · have g' : q ∉ fd' := of_decide_eq_true g
            walk_at "cl"
            have wl : wt'.length ≤ 1000000 := by
              have : fd'.length ≤ N.n := fl
              have : N.n ≤ 10 := n10
              simp only [List.length_append, List.length_cons, List.length_nil] at hw
              omega
            have fl2 : fd'.length ≤ 1000000 := by have : N.n ≤ 10 := n10; omega
            refine ⟨lt_line fl2, lt_line fl2, lt_line wl, lt_line wl, hlt, fd' ++ [q], wt' ++ [q], .fz (.int l), .fz (.int q), ?_, ?_, ?_, ?_, ?_, ?_, ?_, ?_, ?_, ?_⟩
            · exact List.nodup_append.mpr ⟨f1, by simp, fun a ha b hb e => by simp at hb; subst hb; subst e; exact g' ha⟩
            · intro x hx
              rcases List.mem_append.mp hx with h | h
              · exact f2 x h
              · simp at h
                subst h
                exact .step (f2 _ (f3 _ hh)) hq
            · exact fun x hx => List.mem_append_left _ (f3 x hx)
            · intro x hx
              rcases List.mem_append.mp hx with h | h
              · exact List.mem_append_left _ (f4 x h)
              · exact List.mem_append_right _ h
            · exact fun x hx => List.mem_append_left _ (f5 x hx)
            · intro x hx
              rcases List.mem_append.mp hx with h | h
              · exact (f6 x h).imp id fun h => List.mem_append_left _ h
              · exact .inr (List.mem_append_right _ h)
            · intro x hx
              rcases List.mem_append.mp hx with h | h
              · exact List.mem_append_left _ (f7 x h)
              · simp at h
                subst h
                simp
            · simp; omega
            · simp; omega
            · simp [Nt.d]
          · have g' : q ∈ fd' := by simpa using g
            walk_at "cl"
            refine ⟨hlt, fd', wt', _, _, f1, f2, f3, f4, f5, f6, ?_, f8, ll, rfl⟩
            intro x hx
            rcases List.mem_append.mp hx with h | h
            · exact f7 x h
            · simp at h
              subst h
              exact g'
        · rintro _ ⟨hn, fd', wt', c6, c7, f1, f2, f3, f4, f5, f6, f7, f8, ll, rfl⟩
          have fl := nodup_len f1 fun x hx => (f2 x hx).in_ ho hs.1 hb
          simp only [List.length_append, List.length_cons, List.length_nil] at h6
          rw [List.length_map, List.take_length] at f7
          refine ⟨2 * N.n + wt'.length - 2 * fd'.length, by omega, fd', wt', _, _, _, f1, f2, fun x hx => f3 x (h3 x hx), f4, (by simp only [List.length_append, List.length_cons, List.length_nil] at hw; omega), ?_, by have : fd'.length ≤ N.n := fl; omega, rfl⟩
          intro p hp hq q hpq
          rcases f6 p hp with h | h
          · by_cases e : p = here
            · subst e
              obtain ⟨l, hl⟩ := mem_linesAt.mpr hpq
              exact f7 _ hl
            · exact f3 _ (h5 p h (fun hm => by
                rcases List.mem_append.mp hm with h | h
                · exact hq (f5 _ h)
                · simp at h; exact e h) q hpq)
          · exact absurd h hq
      · have g' : wt = [] := by simpa using g
        subst g'
        walk_at "cl"
        refine hM _ ⟨fd, _, _, _, _, h1, fun x => ⟨h2 x, fun h => ?_⟩, rfl⟩
        induction h with
        | base h => exact h3 _ h
        | step _ a ih => exact h5 _ ih (by simp) _ a
  rintro _ ⟨fd, c4, c5, c6, c7, h1, h2, rfl⟩
  walk_at "cl"
  show FOut.ok _ _ = FOut.ok _ _
  have e : isrt fd = reachL N sm bg := by
    refine lt_unique (le_nodup_lt (isrt_sorted fd) ((isrt_perm fd).nodup_iff.mpr h1)) (reachL_lt _ _ _) fun x => ?_
    rw [(isrt_perm fd).mem_iff, h2, mem_reachL]
    exact ⟨fun h => ⟨h.in_ ho hs.1 hb, h⟩, fun h => h.2⟩
  rw [e]
  rfl
end CL

namespace CL
open PySem L2
local macro_rules | `(tactic| walk_at "cl") => `(tactic| simp -dsimp only [br_true, br_false, ↓u_seq, ↓u_skip, ↓u_expr, ↓u_if, ↓u_ret, ↓retK_fz, ↓retK_lst, ↓retK_dct, ↓retK_obj, ↓retK_lsc, ↓retK_ali, ↓u_set, ↓rest_fz, ↓rest_lst, ↓rest_dct, ↓rest_obj, ↓rest_lsc, ↓rest_ali, ↓toD_fz, ↓toD_lst, ↓toD_dct, ↓toD_obj, ↓toD_lsc, ↓toD_ali, ↓toDs_nil, ↓toDs_cons, frz_fz, frz_lst, frz_dct, ↓u_var, varK_fz, varK_lst, varK_dct, varK_obj, varK_lsc, ↓u_C, ↓u_nil, ↓u_cons, ↓u_F, ↓u_fS, ↓u_fL, opt_some, opt_if, svs_nil, svs_cons, sv_fz, sv_lst, sv_dct, sv_ali, svO_lst, svO_fz, svO_dct, get0, getS, ↓u_B, ↓u_and, ↓u_or, ↓u_not, ↓u_yes, ↓u_andV, ↓u_orV, ↓u_notV, ↓u_ifE, ↓u_chain, ↓u_tup, ↓u_lst, ↓u_lsc, ↓u_dict0, ↓u_fAdd, ↓add_int, ↓add_str, ↓add_lst, ↓add_tup, ↓u_fMul, ↓mul_int, ↓mul_lst, ↓u_fIx, ↓ix_lst, ↓ix_tup, ↓ix_scr, ↓ix_str, ↓u_fTuple, ↓tup_lst, ↓tup_tup, ↓u_fDGet, ↓dget_dct, ↓u_sl, ↓sl_lst, ↓sl_tup, ↓sl_str, ↓u_no, ↓u_so, ↓u_lput, ↓lputK_int, lputO_lst, ↓u_dput, ↓dputC_fz, dputO_dct, ownL_isL, ownD_isDc, live_isLv, isL_lst, isDc_dct, isLv_lst, isLv_fz, isLv_obj, isLv_dct, isLv_lsc, ↓u_meth, methO_lst, ↓u_app, appO_lst, ↓u_pop, ↓u_popAt, ↓u_clear, ↓u_asg, ↓u_gN, ↓u_gTu, ↓u_gsN, ↓u_gsC, ↓fldV_fz, fldO_obj, ↓fldK_fz, ↓fldK_ali, ↓u_fld, ↓u_callV, ↓outV_ok, ↓outV_ex, ↓u_callB, ↓outB_ok, ↓outB_ex, ↓outM_ok, ↓u_methV, ↓methD_obj, ↓outI_ok, ↓u_make, ↓u_fset, fset_0, fset_1, fset_2, fset_3, fset_4, fset_5, xc_endK, rt_endK, nx_endK, ↓u_for, ↓u_while, ↓u_lc, ↓u_itL, ↓itL_lst, ↓itL_tup, ↓itL_scr, ↓u_itU, ↓itU_tup, ↓u_rg1, ↓u_rg2, ↓u_lrg1, ↓u_lrg2, atI_0, atI_1, atI_2, atI_3, gSub_int, gDiv_int, gMod_int, gPow_18, gPow_6, gLt_int, gLe_int, gGt_int, gGe_int, gMax_int, gMin_int, gNeg_int, gInt_int, gInt_bl, gLen_lst, gLen_tup, gLen_scr, gLen_dct, gLen_str, gList_lst, gList_tup, gRev_lst, gSorted_li, gSorted_ti, gSum_li, gIsN_non, gIsN_int, gNotN_non, gNotN_int, gEq_int, gNe_int, gEq_LI, gNe_LI, gNe_LI0, gIn_int, gNotIn_int, ↓ixN_c0, ↓ixN_c1, ↓ixN_c2, ↓ixN_c3, frz_net, fget_needs, fget_roots, fget_wires, fget_net1, fget_kept, fget_used, fget_net2, fget_begin, fget_dark, fget_first, fget_far, fget_by, fget_net3, fget_state, fget_told, rangeD_upto, gIs_non, isB_int_non, isB_bool_non, isB_str_non, isB_list_non, isB_tuple_non, isB_dict_non, gIs_bl, isB_int_bl, isB_bool_bl, isB_str_bl, isB_list_bl, isB_tuple_bl, isB_dict_bl, gIs_int, isB_int_int, isB_bool_int, isB_str_int, isB_list_int, isB_tuple_int, isB_dict_int, gIs_str, isB_int_str, isB_bool_str, isB_str_str, isB_list_str, isB_tuple_str, isB_dict_str, gIs_tup, isB_int_tup, isB_bool_tup, isB_str_tup, isB_list_tup, isB_tuple_tup, isB_dict_tup, gIs_lst, isB_int_lst, isB_bool_lst, isB_str_lst, isB_list_lst, isB_tuple_lst, isB_dict_lst, gIs_dct, isB_int_dct, isB_bool_dct, isB_str_dct, isB_list_dct, isB_tuple_dct, isB_dict_dct, gNe_tt, gNe_ff, gNe_tf, gNe_ft, gEq_tt, gEq_ff, gIsN_lst, gNotN_lst, gIsN_tup, gNotN_tup, gIsN_str, gNotN_str, gIsN_bl, gNotN_bl, gIsN_dct, gNotN_dct, ↓rest_Dc, isLv_Dc, ↓u_callL, ↓outL_ok, ↓outL_ex, ↓outML_ok, ↓u_methL, ↓methLD_obj, ↓u_callB1, ↓b1A_two, ↓b1D_ali, ↓b1D_fz, ↓u_methB, ↓outMB_ok, isObj_obj, ↓u_fMinD, ↓minK_lst, ↓u_raise2, ↓r2K_two, ↓u_raise1, ↓r1K_one, ↓u_raise0, ↓u_try, kd_int, gDIn_yes, gDIn_no, varK_sqC, sv_sqV, ↓itL_sq, gList_sq, gLen_sq, gSorted_sq, gNe_nil2, gEq_nil2, gEq_LI0, ↓u_par, setAll_nil, setAll_cons, noAli_nil, noAli_fz, noAli_lst, noAli_dct, noAli_obj, gIsB_bl, ↓u_fdget, ↓u_fdcopy, ↓u_fdput, fldD_2, setFD_2, keyO_int, ↓u_dgetN, ↓dgetNK_dct, ↓u_forO, ↓forOC_lst, ↓u_lc2, ↓u_lk, ↓lkO_dct, ↓lkK_lst, noAli_dz, noAli_dz0, noAli_dz1, noAli_dz2, noAli_dz3, ↓u_itK, ↓itKO_dfz, ↓u_dzGet, ↓dzO_dfz, ↓u_join, ↓joinK_some, ↓u_split, ↓splK_str, ↓u_itS, ↓itSK_str, upto_length, Bool.not_true, Bool.not_false, decide_true, decide_false, Option.bind_some, Option.map_some, List.set_cons_zero, List.set_cons_succ, true_and, and_true, List.map_cons, List.map_nil, decide_eq_true_eq, Bool.and_eq_true, List.length_map, List.length_range, List.length_cons, List.length_nil, Nat.zero_add, Nat.reduceAdd, Nat.reduceLT, Nat.reduceLeDiff, Int.reduceToNat, Int.reduceLT, Int.reduceLE, List.getElem?_cons_zero, List.eraseIdx_cons_zero, List.all_cons, List.all_nil, Bool.and_true, Bool.true_and])
/-! # the law's own way to what is reached -/
theorem Rch.mono {N : Nt} {sm sm' bg : List Int} (h : ∀ l ∈ sm, l ∈ sm') {p : Int} (r : Rch N sm bg p) : Rch N sm' bg p := by
  induction r with
  | base h => exact .base h
  | step _ a ih =>
    obtain ⟨l, hl, a⟩ := a
    exact .step ih ⟨l, h l hl, a⟩
theorem Rch.trans {N : Nt} {sm bg : List Int} {p q : Int} (h : Rch N sm bg p) (r : Rch N sm [p] q) : Rch N sm bg q := by
  induction r with
  | base h' => simp at h'; subst h'; exact h
  | step _ a ih => exact .step ih a
theorem Rch.symm {N : Nt} {sm : List Int} {p q : Int} (r : Rch N sm [p] q) : Rch N sm [q] p := by
  induction r with
  | base h' => simp at h'; subst h'; exact .base (by simp)
  | step _ a ih => exact Rch.trans (.step (.base (by simp)) (Nt.adj_symm a)) ih
theorem Rch.one {N : Nt} {sm bg : List Int} {q : Int} (r : Rch N sm bg q) : ∃ b ∈ bg, Rch N sm [b] q := by
  induction r with
  | base h => exact ⟨_, h, .base (by simp)⟩
  | step _ a ih =>
    obtain ⟨b, hb, h⟩ := ih
    exact ⟨b, hb, .step h a⟩
theorem Rch.of {N : Nt} {sm bg : List Int} {b q : Int} (hb : b ∈ bg) (r : Rch N sm [b] q) : Rch N sm bg q := Rch.trans (.base hb) r
/-- groups' numbers tell who is joined -/
def Grp (N : Nt) (sm : List Int) (g : List Int) : Prop := g.length = N.n ∧ ∀ p q : Int, 0 ≤ p → p < N.n → 0 ≤ q → q < N.n → (g.getD p.toNat 0 = g.getD q.toNat 0 ↔ Rch N sm [p] q)
def relab (g1 g2 : Int) (g : List Int) : List Int := g.map fun x => if x = g2 then g1 else x
theorem relab_get {g : List Int} {a b : Int} {i : Nat} (h : i < g.length) : (relab a b g).getD i 0 = if g.getD i 0 = b then a else g.getD i 0 := by
  unfold relab
  simp only [List.getD_eq_getElem?_getD, List.getElem?_map, List.getElem?_eq_getElem h, Option.map_some, Option.getD_some]
theorem Grp.step {N : Nt} (ho : N.ok) {sm g : List Int} {l : Int} (hs : ∀ l ∈ sm, 0 ≤ l ∧ l < N.wires.length) (hl : 0 ≤ l ∧ l < N.wires.length) (h : Grp N sm g) : Grp N (sm ++ [l]) (relab (g.getD (N.wire l).1.toNat 0) (g.getD (N.wire l).2.1.toNat 0) g) := by
  obtain ⟨hlen, h⟩ := h
  have w := ho.wr _ (Nt.wire_at hl).2
  generalize ew : N.wire l = wl at *
  obtain ⟨u, v, lim⟩ := wl
  obtain ⟨⟨u0, u1⟩, ⟨v0, v1⟩, _⟩ := w
  simp only at u0 u1 v0 v1
  refine ⟨by unfold relab; rw [List.length_map]; exact hlen, fun p q p0 p1 q0 q1 => ?_⟩
  have sub : ∀ {a b : Int}, Rch N sm [a] b → Rch N (sm ++ [l]) [a] b := fun r => r.mono fun l h => List.mem_append_left _ h
  have uv : N.adj (sm ++ [l]) u v := ⟨l, by simp, by rw [ew]; exact .inl ⟨rfl, rfl⟩⟩
  have ruv : Rch N (sm ++ [l]) [u] v := .step (.base (by simp)) uv
  have gt : ∀ x : Int, 0 ≤ x → x < N.n → (relab (g.getD u.toNat 0) (g.getD v.toNat 0) g).getD x.toNat 0 = if g.getD x.toNat 0 = g.getD v.toNat 0 then g.getD u.toNat 0 else g.getD x.toNat 0 := fun x x0 x1 => relab_get (by have : x < N.n := x1; omega)
  constructor
  · intro e
    rw [gt p p0 p1, gt q q0 q1] at e
    by_cases h1 : g.getD p.toNat 0 = g.getD v.toNat 0
    · by_cases h2 : g.getD q.toNat 0 = g.getD v.toNat 0
      · exact sub ((h p q p0 p1 q0 q1).mp (h1.trans h2.symm))
      · rw [if_pos h1, if_neg h2] at e
        exact (sub ((h p v p0 p1 v0 v1).mp h1)).trans (ruv.symm.trans (sub ((h u q u0 u1 q0 q1).mp e)))
    · by_cases h2 : g.getD q.toNat 0 = g.getD v.toNat 0
      · rw [if_neg h1, if_pos h2] at e
        exact (sub ((h p u p0 p1 u0 u1).mp e)).trans (ruv.trans (sub ((h v q v0 v1 q0 q1).mp h2.symm)))
      · rw [if_neg h1, if_neg h2] at e
        exact sub ((h p q p0 p1 q0 q1).mp e)
  · intro r
    have hs' : ∀ k ∈ sm ++ [l], 0 ≤ k ∧ k < N.wires.length := fun k hk => by
      rcases List.mem_append.mp hk with h | h
      · exact hs k h
      · simp at h; subst h; exact hl
    have one : ∀ a b : Int, N.adj (sm ++ [l]) a b → (relab (g.getD u.toNat 0) (g.getD v.toNat 0) g).getD a.toNat 0 = (relab (g.getD u.toNat 0) (g.getD v.toNat 0) g).getD b.toNat 0 := fun a b ab => by
      have ⟨⟨a0, a1⟩, b0, b1⟩ := Nt.adj_in ho hs' ab
      rw [gt a a0 a1, gt b b0 b1]
      obtain ⟨k, hk, hab⟩ := ab
      rcases List.mem_append.mp hk with hk | hk
      · have : g.getD a.toNat 0 = g.getD b.toNat 0 := (h a b a0 a1 b0 b1).mpr (.step (.base (by simp)) ⟨k, hk, hab⟩)
        rw [this]
      · simp at hk
        subst hk
        rw [ew] at hab
        rcases hab with ⟨rfl, rfl⟩ | ⟨rfl, rfl⟩
        · rw [if_pos (rfl : g.getD b.toNat 0 = _)]
          split <;> rfl
        · rw [if_pos (rfl : g.getD a.toNat 0 = _)]
          split <;> rfl
    have all : ∀ {b : Int}, Rch N (sm ++ [l]) [p] b → (relab (g.getD u.toNat 0) (g.getD v.toNat 0) g).getD p.toNat 0 = (relab (g.getD u.toNat 0) (g.getD v.toNat 0) g).getD b.toNat 0 := fun r => by
      induction r with
      | base h => simp at h; subst h; rfl
      | step _ a ih => exact ih.trans (one _ _ a)
    exact all r
theorem upto_getD {n : Nat} {p : Int} (h0 : 0 ≤ p) (h : p < n) : (upto n).getD p.toNat 0 = p := by
  rw [List.getD_eq_getElem?_getD, upto_get (by omega)]
  simp
  omega
theorem Grp.start (N : Nt) : Grp N [] (upto N.n) := by
  refine ⟨upto_length _, fun p q p0 p1 q0 q1 => ?_⟩
  rw [upto_getD p0 p1, upto_getD q0 q1]
  constructor
  · rintro rfl
    exact .base (by simp)
  · intro r
    cases r with
    | base h => simp at h; exact h.symm
    | step _ a => obtain ⟨l, hl, _⟩ := a; simp at hl
theorem getD_some {g : List Int} {p : Int} {n : Nat} (hl : g.length = n) (h0 : 0 ≤ p) (h : p < n) : atI (g.map D.int) p = some (.int (g.getD p.toNat 0)) := by
  refine atI_nat h0 ?_
  rw [List.getElem?_map, List.getD_eq_getElem?_getD, List.getElem?_eq_getElem (by omega)]
  rfl
@[reducible] def S_Lgroups : FSpec := ⟨Nt × Bool × List Int, none, fun a => [.fz a.1.t, .fz (sq a.2.1 a.2.2)], fun a => a.1.ok ∧ a.1.ls a.2.2, fun a o => ∃ g : List Int, Grp a.1 a.2.2 g ∧ o = .ok (.lst (g.map D.int)) .un⟩
def w_Lgroups : WS := (wSeq (wSet 2 (wLRg1 (w1 (fS gLen) (w2 fIx (wVar 0) (wC (.int 0)))))) (wSeq (wFor (wItL (wVar 1)) (gN 3) (wSeq (wAsg (w2 fIx (w2 fIx (wVar 0) (wC (.int 2))) (wVar 3)) (gTu 3 (gsC (gN 4) (gsC (gN 5) (gsC (gN 6) gsN))))) (wSet 2 (wLc 7 (wItL (wVar 2)) wYes (w2 fIx (wLst (wCons (wVar 7) (wCons (w2 fIx (wVar 2) (wVar 4)) wNil))) (w1 (fS gInt) (w2 (fS gEq) (wVar 7) (w2 fIx (wVar 2) (wVar 5))))))))) (wRet (wVar 2))))
theorem sem_Lgroups (a : Nt × Bool × List Int) (hp : S_Lgroups.pre a) : w_Lgroups (S_Lgroups.args a ++ List.replicate 6 .un) (endK S_Lgroups a) := by
  obtain ⟨N, b, sm⟩ := a
  obtain ⟨ho, hs⟩ := hp
  simp only at ho hs
  have n10 := ho.n10
  show w_Lgroups [.fz N.t, .fz (sq b sm), .un, .un, .un, .un, .un, .un] _
  unfold w_Lgroups
  refine seq_cut (fun ρ => ρ = [.fz N.t, .fz (sq b sm), .lst ((upto N.n).map D.int), .un, .un, .un, .un, .un]) (fun M hM => ?_) ?_
  · unfold Nt.t
    walk_at "cl"
    refine ⟨by omega, ?_⟩
    exact hM _ rfl
  rintro _ rfl
  walk_at "cl"
  refine forI_intro (fun n ρ => ∃ (g : List Int) (c3 c4 c5 c6 : Cell), Grp N (sm.take n) g ∧ ρ = [.fz N.t, .fz (sq b sm), .lst (g.map D.int), c3, c4, c5, c6, .un]) ⟨_, _, _, _, _, Grp.start N, rfl⟩ ?_ ?_
  · rintro n d _ hd ⟨g, c3, c4, c5, c6, hg, rfl⟩
    obtain ⟨l, hx, rfl⟩ : ∃ x, sm[n]? = some x ∧ D.int x = d := by simpa using hd
    have hl := hs.1 l (List.mem_of_getElem? hx)
    have w := ho.wr _ (Nt.wire_at hl).2
    have st := hg.step ho (fun k hk => hs.1 k (List.mem_of_mem_take hk)) hl
    have tk : sm.take (n + 1) = sm.take n ++ [l] := by rw [List.take_succ, hx]; rfl
    rw [tk]
    have hgl : g.length = N.n := hg.1
    unfold Nt.t
    walk_at "cl"
    rw [Nt.atI hl]
    unfold encW
    walk_at "cl"
    unfold relab at st
    refine lcI_ints (fun _ => true) (fun x => .int (if x = g.getD (N.wire l).2.1.toNat 0 then g.getD (N.wire l).1.toNat 0 else x)) rfl (by rw [hgl]; have : N.n ≤ 10 := n10; omega) ?_ ?_ ?_
    · intro x hx KT hK
      walk_at "cl"
      exact hK
    · intro x hx _ KD hK
      walk_at "cl"
      rw [getD_some hgl w.1.1 w.1.2]
      walk_at "cl"
      rw [getD_some hgl w.2.1.1 w.2.1.2]
      walk_at "cl"
      by_cases e : x = g.getD (N.wire l).2.1.toNat 0
      · rw [if_pos e] at hK
        rw [if_pos e, atI_1]
        exact hK
      · rw [if_neg e] at hK
        rw [if_neg e, atI_0]
        exact hK
    · walk_at "cl"
      rw [filter_true]
      have e : (g.map fun x => D.int (if x = g.getD (N.wire l).2.1.toNat 0 then g.getD (N.wire l).1.toNat 0 else x)) = (g.map fun x => if x = g.getD (N.wire l).2.1.toNat 0 then g.getD (N.wire l).1.toNat 0 else x).map D.int := by
        rw [List.map_map]
        rfl
      rw [e]
      exact ⟨_, _, _, _, _, st, rfl⟩
  · rintro _ ⟨g, c3, c4, c5, c6, hg, rfl⟩
    rw [List.length_map, List.take_length] at hg
    walk_at "cl"
    exact ⟨g, hg, rfl⟩
@[reducible] def S_Lled : FSpec := ⟨Nt × (Bool × List Int) × List Int, none, fun a => [.fz a.1.t, .fz (sq a.2.1.1 a.2.1.2), .fz (.lst (a.2.2.map D.int))], fun a => a.1.ok ∧ a.1.ls a.2.1.2 ∧ a.2.2.length ≤ 1000 ∧ ∀ b ∈ a.2.2, 0 ≤ b ∧ b < a.1.n,
  fun a o => o = .ok (.lst ((reachL a.1 a.2.1.2 a.2.2).map D.int)) .un⟩
def w_Lled : WS := (wSeq (wSet 3 (wCallV S_Lgroups (wCons (wVar 0) (wCons (wVar 1) wNil)))) (wSeq (wSet 4 (wLc 5 (wItL (wVar 2)) wYes (w2 fIx (wVar 3) (wVar 5)))) (wRet (wLc 5 (wRg1 (wCons (w1 (fS gLen) (w2 fIx (wVar 0) (wC (.int 0)))) wNil)) (wB (w2 (fS (gInU false)) (w2 fIx (wVar 3) (wVar 5)) (wVar 4))) (wVar 5)))))
theorem sem_Lled (a : Nt × (Bool × List Int) × List Int) (hp : S_Lled.pre a) : w_Lled (S_Lled.args a ++ List.replicate 3 .un) (endK S_Lled a) := by
  obtain ⟨N, ⟨b, sm⟩, bg⟩ := a
  obtain ⟨ho, hs, hbl, hb⟩ := hp
  simp only at ho hs hbl hb
  have n10 := ho.n10
  show w_Lled [.fz N.t, .fz (sq b sm), .fz (.lst (bg.map D.int)), .un, .un, .un] _
  unfold w_Lled
  refine seq_cut (fun ρ => ∃ g : List Int, Grp N sm g ∧ ρ = [.fz N.t, .fz (sq b sm), .fz (.lst (bg.map D.int)), .lst (g.map D.int), .un, .un]) (fun M hM => ?_) ?_
  · walk_at "cl"
    refine call_intro (N, b, sm) rfl ⟨ho, hs⟩ ?_
    rintro _ ⟨g, hg, rfl⟩
    walk_at "cl"
    exact hM _ ⟨g, hg, rfl⟩
  rintro _ ⟨g, hg, rfl⟩
  have hgl : g.length = N.n := hg.1
  refine seq_cut (fun ρ => ρ = [.fz N.t, .fz (sq b sm), .fz (.lst (bg.map D.int)), .lst (g.map D.int), .lst ((bg.map fun x => g.getD x.toNat 0).map D.int), .un]) (fun M hM => ?_) ?_
  · walk_at "cl"
    refine lcI_ints (fun _ => true) (fun x => .int (g.getD x.toNat 0)) rfl (by omega) ?_ ?_ ?_
    · intro x hx KT hK
      walk_at "cl"
      exact hK
    · intro x hx _ KD hK
      walk_at "cl"
      rw [getD_some hgl (hb x hx).1 (hb x hx).2]
      walk_at "cl"
      exact hK
    · walk_at "cl"
      refine hM _ ?_
      rw [filter_true, List.map_map]
      rfl
  rintro _ rfl
  unfold Nt.t
  walk_at "cl"
  refine ⟨small62_of _ (by omega) (by omega), ?_⟩
  refine lcI_ints (fun x => decide (g.getD x.toNat 0 ∈ bg.map fun x => g.getD x.toNat 0)) (fun x => .int x) rfl (by simp; omega) ?_ ?_ ?_
  · intro x hx KT hK
    have hx' : 0 ≤ x ∧ x < N.n := mem_upto.mp (by simpa using hx)
    walk_at "cl"
    rw [getD_some hgl hx'.1 hx'.2]
    walk_at "cl"
    exact hK
  · intro x hx _ KD hK
    walk_at "cl"
    exact hK
  · walk_at "cl"
    show FOut.ok _ _ = FOut.ok _ _
    have e : ((upto N.n).filter fun x => decide (g.getD x.toNat 0 ∈ bg.map fun x => g.getD x.toNat 0)) = reachL N sm bg := by
      unfold reachL
      refine List.filter_congr fun x hx => ?_
      have hx' := mem_upto.mp hx
      rw [decide_eq_decide, List.mem_map]
      constructor
      · rintro ⟨a, ha, e⟩
        exact Rch.of ha ((hg.2 a x (hb a ha).1 (hb a ha).2 hx'.1 hx'.2).mp e)
      · intro r
        obtain ⟨a, ha, r⟩ := r.one
        exact ⟨a, ha, (hg.2 a x (hb a ha).1 (hb a ha).2 hx'.1 hx'.2).mpr r⟩
    rw [← e]
    simp
    rfl
end CL

namespace CL
open PySem L2
local macro_rules | `(tactic| walk_at "cl") => `(tactic| simp -dsimp only [br_true, br_false, ↓u_seq, ↓u_skip, ↓u_expr, ↓u_if, ↓u_ret, ↓retK_fz, ↓retK_lst, ↓retK_dct, ↓retK_obj, ↓retK_lsc, ↓retK_ali, ↓u_set, ↓rest_fz, ↓rest_lst, ↓rest_dct, ↓rest_obj, ↓rest_lsc, ↓rest_ali, ↓toD_fz, ↓toD_lst, ↓toD_dct, ↓toD_obj, ↓toD_lsc, ↓toD_ali, ↓toDs_nil, ↓toDs_cons, frz_fz, frz_lst, frz_dct, ↓u_var, varK_fz, varK_lst, varK_dct, varK_obj, varK_lsc, ↓u_C, ↓u_nil, ↓u_cons, ↓u_F, ↓u_fS, ↓u_fL, opt_some, opt_if, svs_nil, svs_cons, sv_fz, sv_lst, sv_dct, sv_ali, svO_lst, svO_fz, svO_dct, get0, getS, ↓u_B, ↓u_and, ↓u_or, ↓u_not, ↓u_yes, ↓u_andV, ↓u_orV, ↓u_notV, ↓u_ifE, ↓u_chain, ↓u_tup, ↓u_lst, ↓u_lsc, ↓u_dict0, ↓u_fAdd, ↓add_int, ↓add_str, ↓add_lst, ↓add_tup, ↓u_fMul, ↓mul_int, ↓mul_lst, ↓u_fIx, ↓ix_lst, ↓ix_tup, ↓ix_scr, ↓ix_str, ↓u_fTuple, ↓tup_lst, ↓tup_tup, ↓u_fDGet, ↓dget_dct, ↓u_sl, ↓sl_lst, ↓sl_tup, ↓sl_str, ↓u_no, ↓u_so, ↓u_lput, ↓lputK_int, lputO_lst, ↓u_dput, ↓dputC_fz, dputO_dct, ownL_isL, ownD_isDc, live_isLv, isL_lst, isDc_dct, isLv_lst, isLv_fz, isLv_obj, isLv_dct, isLv_lsc, ↓u_meth, methO_lst, ↓u_app, appO_lst, ↓u_pop, ↓u_popAt, ↓u_clear, ↓u_asg, ↓u_gN, ↓u_gTu, ↓u_gsN, ↓u_gsC, ↓fldV_fz, fldO_obj, ↓fldK_fz, ↓fldK_ali, ↓u_fld, ↓u_callV, ↓outV_ok, ↓outV_ex, ↓u_callB, ↓outB_ok, ↓outB_ex, ↓outM_ok, ↓u_methV, ↓methD_obj, ↓outI_ok, ↓u_make, ↓u_fset, fset_0, fset_1, fset_2, fset_3, fset_4, fset_5, xc_endK, rt_endK, nx_endK, ↓u_for, ↓u_while, ↓u_lc, ↓u_itL, ↓itL_lst, ↓itL_tup, ↓itL_scr, ↓u_itU, ↓itU_tup, ↓u_rg1, ↓u_rg2, ↓u_lrg1, ↓u_lrg2, atI_0, atI_1, atI_2, atI_3, gSub_int, gDiv_int, gMod_int, gPow_18, gPow_6, gLt_int, gLe_int, gGt_int, gGe_int, gMax_int, gMin_int, gNeg_int, gInt_int, gInt_bl, gLen_lst, gLen_tup, gLen_scr, gLen_dct, gLen_str, gList_lst, gList_tup, gRev_lst, gSorted_li, gSorted_ti, gSum_li, gIsN_non, gIsN_int, gNotN_non, gNotN_int, gEq_int, gNe_int, gEq_LI, gNe_LI, gNe_LI0, gIn_int, gNotIn_int, ↓ixN_c0, ↓ixN_c1, ↓ixN_c2, ↓ixN_c3, frz_net, fget_needs, fget_roots, fget_wires, fget_net1, fget_kept, fget_used, fget_net2, fget_begin, fget_dark, fget_first, fget_far, fget_by, fget_net3, fget_state, fget_told, rangeD_upto, gIs_non, isB_int_non, isB_bool_non, isB_str_non, isB_list_non, isB_tuple_non, isB_dict_non, gIs_bl, isB_int_bl, isB_bool_bl, isB_str_bl, isB_list_bl, isB_tuple_bl, isB_dict_bl, gIs_int, isB_int_int, isB_bool_int, isB_str_int, isB_list_int, isB_tuple_int, isB_dict_int, gIs_str, isB_int_str, isB_bool_str, isB_str_str, isB_list_str, isB_tuple_str, isB_dict_str, gIs_tup, isB_int_tup, isB_bool_tup, isB_str_tup, isB_list_tup, isB_tuple_tup, isB_dict_tup, gIs_lst, isB_int_lst, isB_bool_lst, isB_str_lst, isB_list_lst, isB_tuple_lst, isB_dict_lst, gIs_dct, isB_int_dct, isB_bool_dct, isB_str_dct, isB_list_dct, isB_tuple_dct, isB_dict_dct, gNe_tt, gNe_ff, gNe_tf, gNe_ft, gEq_tt, gEq_ff, gIsN_lst, gNotN_lst, gIsN_tup, gNotN_tup, gIsN_str, gNotN_str, gIsN_bl, gNotN_bl, gIsN_dct, gNotN_dct, ↓rest_Dc, isLv_Dc, ↓u_callL, ↓outL_ok, ↓outL_ex, ↓outML_ok, ↓u_methL, ↓methLD_obj, ↓u_callB1, ↓b1A_two, ↓b1D_ali, ↓b1D_fz, ↓u_methB, ↓outMB_ok, isObj_obj, ↓u_fMinD, ↓minK_lst, ↓u_raise2, ↓r2K_two, ↓u_raise1, ↓r1K_one, ↓u_raise0, ↓u_try, kd_int, gDIn_yes, gDIn_no, varK_sqC, sv_sqV, ↓itL_sq, gList_sq, gLen_sq, gSorted_sq, gNe_nil2, gEq_nil2, gEq_LI0, ↓u_par, setAll_nil, setAll_cons, noAli_nil, noAli_fz, noAli_lst, noAli_dct, noAli_obj, gIsB_bl, ↓u_fdget, ↓u_fdcopy, ↓u_fdput, fldD_2, setFD_2, keyO_int, ↓u_dgetN, ↓dgetNK_dct, ↓u_forO, ↓forOC_lst, ↓u_lc2, ↓u_lk, ↓lkO_dct, ↓lkK_lst, noAli_dz, noAli_dz0, noAli_dz1, noAli_dz2, noAli_dz3, ↓u_itK, ↓itKO_dfz, ↓u_dzGet, ↓dzO_dfz, ↓u_join, ↓joinK_some, ↓u_split, ↓splK_str, ↓u_itS, ↓itSK_str, upto_length, Bool.not_true, Bool.not_false, decide_true, decide_false, Option.bind_some, Option.map_some, List.set_cons_zero, List.set_cons_succ, true_and, and_true, List.map_cons, List.map_nil, decide_eq_true_eq, Bool.and_eq_true, List.length_map, List.length_range, List.length_cons, List.length_nil, Nat.zero_add, Nat.reduceAdd, Nat.reduceLT, Nat.reduceLeDiff, Int.reduceToNat, Int.reduceLT, Int.reduceLE, List.getElem?_cons_zero, List.eraseIdx_cons_zero, List.all_cons, List.all_nil, Bool.and_true, Bool.true_and])
/-! # the law's own likeness, of a thing with itself -/
mutual
def plainD : Nat → D → Bool
  | _ + 1, .int _ => true
  | _ + 1, .non => true
  | _ + 1, .str s => PyData.canLay0 (.str s)
  | n + 1, .lst ds => plainDs n ds && decide (ds.length ≤ 1000000)
  | n + 1, .tup ds => plainDs n ds && decide (ds.length ≤ 1000000)
  | _, _ => false
def plainDs : Nat → List D → Bool
  | _, [] => true
  | n, d :: ds => plainD n d && plainDs n ds
end
theorem plainDs_get {n : Nat} : ∀ {ds : List D} {i : Nat} {d : D}, plainDs n ds = true → ds[i]? = some d → plainD n d = true
  | [], _, _, _, h => by simp at h
  | a :: r, 0, d, h, e => by
    simp at e
    subst e
    simp only [plainDs, Bool.and_eq_true] at h
    exact h.1
  | a :: r, i + 1, d, h, e => by
    simp only [plainDs, Bool.and_eq_true] at h
    exact plainDs_get h.2 (by simpa using e)
theorem plainDs_all {n : Nat} : ∀ {ds : List D}, (∀ d ∈ ds, plainD n d = true) → plainDs n ds = true
  | [], _ => by simp [plainDs]
  | a :: r, h => by
    simp only [plainDs, Bool.and_eq_true]
    exact ⟨h a List.mem_cons_self, plainDs_all fun d hd => h d (List.mem_cons_of_mem _ hd)⟩
theorem plain_LI {n : Nat} {ns : List Int} (h : ns.length ≤ 1000000) : plainD (n + 2) (.lst (ns.map D.int)) = true := by
  simp only [plainD, Bool.and_eq_true, decide_eq_true_eq, List.length_map]
  refine ⟨plainDs_all fun d hd => ?_, h⟩
  obtain ⟨x, _, rfl⟩ := List.mem_map.mp hd
  simp [plainD]
@[reducible] def S_LlikeN (n : Nat) : FSpec := ⟨D, none, fun d => [.fz d, .fz d], fun d => plainD n d = true, fun _ o => o = .ok (.fz (.bl true)) .un⟩
def w_Llike (S_Llike : FSpec) : WS := (wSeq (wIf (wB (w1 (fS (gIs .str)) (wVar 1))) (wRet (wAndV (w1 (fS (gIs .str)) (wVar 0)) (w2 (fS gEq) (wVar 0) (wVar 1)))) wSkip) (wSeq (wIf (wB (w1 (fS (gIs .int)) (wVar 1))) (wRet (wAndV (w1 (fS (gIs .int)) (wVar 0)) (wAndV (wNotV (w1 (fS (gIs .bool)) (wVar 0))) (w2 (fS gEq) (wVar 0) (wVar 1))))) wSkip) (wSeq (wIf (wB (w2 (fS gIsN) (wVar 1) (wC .non))) (wRet (w2 (fS gIsN) (wVar 0) (wC .non))) wSkip) (wSeq (wIf (wOr (wB (w2 (fS gNe) (w1 (fS (gIs .tuple)) (wVar 1)) (w1 (fS (gIs .tuple)) (wVar 0)))) (wB (w2 (fS gNe) (w1 (fS (gIs .list)) (wVar 1)) (w1 (fS (gIs .list)) (wVar 0))))) (wRet (wC (.bl false))) wSkip) (wSeq (wIf (wB (w2 (fS gNe) (w1 (fS gLen) (wVar 0)) (w1 (fS gLen) (wVar 1)))) (wRet (wC (.bl false))) wSkip) (wSeq (wFor (wRg1 (wCons (w1 (fS gLen) (wVar 1)) wNil)) (gN 2) (wIf (wNot (wB (wCallV S_Llike (wCons (w2 fIx (wVar 0) (wVar 2)) (wCons (w2 fIx (wVar 1) (wVar 2)) wNil))))) (wRet (wC (.bl false))) wSkip)) (wRet (wC (.bl true)))))))))
theorem sem_Llike (n : Nat) (d : D) (hp : plainD (n + 1) d = true) : w_Llike (S_LlikeN n) ([.fz d, .fz d] ++ List.replicate 1 .un) (endK (S_LlikeN (n + 1)) d) := by
  show w_Llike (S_LlikeN n) [.fz d, .fz d, .un] _
  unfold w_Llike
  cases d with
  | non => walk_at "cl"; rfl
  | int i =>
    walk_at "cl"
    rfl
  | str z =>
    have hz : PyData.canLay0 (.str z) = true := by simpa [plainD] using hp
    have e : gEq [.str z, .str z] = some (.bl true) := by
      simp [gEq, lay, hz, eqD, pd, PyData.eqv]
    walk_at "cl"
    rw [e]
    walk_at "cl"
    rfl
  | lst ds =>
    simp only [plainD, Bool.and_eq_true, decide_eq_true_eq] at hp
    obtain ⟨hd, hl⟩ := hp
    walk_at "cl"
    refine br_f (by simp) ?_
    walk_at "cl"
    refine ⟨small62_of _ (by omega) (by omega), ?_⟩
    refine forI_intro (fun _ ρ => ∃ c, ρ = [.fz (.lst ds), .fz (.lst ds), c]) ⟨_, rfl⟩ ?_ ?_
    · rintro k x _ hx ⟨c, rfl⟩
      obtain ⟨hn, rfl⟩ := upto_item hx
      rw [Int.toNat_natCast] at hn
      have e := List.getElem?_eq_getElem hn
      have e2 : atI ds (k : Int) = some ds[k] := atI_nat (by omega) (by rw [Int.toNat_natCast]; exact e)
      walk_at "cl"
      rw [e2]
      walk_at "cl"
      rw [e2]
      walk_at "cl"
      refine call_intro (S := S_LlikeN n) ds[k] rfl (plainDs_get hd e) ?_
      rintro _ rfl
      walk_at "cl"
      exact ⟨_, rfl⟩
    · rintro _ ⟨c, rfl⟩
      walk_at "cl"
      rfl
  | tup ds =>
    simp only [plainD, Bool.and_eq_true, decide_eq_true_eq] at hp
    obtain ⟨hd, hl⟩ := hp
    walk_at "cl"
    refine br_f (by simp) ?_
    walk_at "cl"
    refine ⟨small62_of _ (by omega) (by omega), ?_⟩
    refine forI_intro (fun _ ρ => ∃ c, ρ = [.fz (.tup ds), .fz (.tup ds), c]) ⟨_, rfl⟩ ?_ ?_
    · rintro k x _ hx ⟨c, rfl⟩
      obtain ⟨hn, rfl⟩ := upto_item hx
      rw [Int.toNat_natCast] at hn
      have e := List.getElem?_eq_getElem hn
      have e2 : atI ds (k : Int) = some ds[k] := atI_nat (by omega) (by rw [Int.toNat_natCast]; exact e)
      walk_at "cl"
      rw [e2]
      walk_at "cl"
      rw [e2]
      walk_at "cl"
      refine call_intro (S := S_LlikeN n) ds[k] rfl (plainDs_get hd e) ?_
      rintro _ rfl
      walk_at "cl"
      exact ⟨_, rfl⟩
    · rintro _ ⟨c, rfl⟩
      walk_at "cl"
      rfl
  | bl b => cases hp
  | dct a b => cases hp
  | obj a b => cases hp
  | scr a => cases hp
end CL

namespace CL
open PySem L2
local macro_rules | `(tactic| walk_at "cl") => `(tactic| simp -dsimp only [br_true, br_false, ↓u_seq, ↓u_skip, ↓u_expr, ↓u_if, ↓u_ret, ↓retK_fz, ↓retK_lst, ↓retK_dct, ↓retK_obj, ↓retK_lsc, ↓retK_ali, ↓u_set, ↓rest_fz, ↓rest_lst, ↓rest_dct, ↓rest_obj, ↓rest_lsc, ↓rest_ali, ↓toD_fz, ↓toD_lst, ↓toD_dct, ↓toD_obj, ↓toD_lsc, ↓toD_ali, ↓toDs_nil, ↓toDs_cons, frz_fz, frz_lst, frz_dct, ↓u_var, varK_fz, varK_lst, varK_dct, varK_obj, varK_lsc, ↓u_C, ↓u_nil, ↓u_cons, ↓u_F, ↓u_fS, ↓u_fL, opt_some, opt_if, svs_nil, svs_cons, sv_fz, sv_lst, sv_dct, sv_ali, svO_lst, svO_fz, svO_dct, get0, getS, ↓u_B, ↓u_and, ↓u_or, ↓u_not, ↓u_yes, ↓u_andV, ↓u_orV, ↓u_notV, ↓u_ifE, ↓u_chain, ↓u_tup, ↓u_lst, ↓u_lsc, ↓u_dict0, ↓u_fAdd, ↓add_int, ↓add_str, ↓add_lst, ↓add_tup, ↓u_fMul, ↓mul_int, ↓mul_lst, ↓u_fIx, ↓ix_lst, ↓ix_tup, ↓ix_scr, ↓ix_str, ↓u_fTuple, ↓tup_lst, ↓tup_tup, ↓u_fDGet, ↓dget_dct, ↓u_sl, ↓sl_lst, ↓sl_tup, ↓sl_str, ↓u_no, ↓u_so, ↓u_lput, ↓lputK_int, lputO_lst, ↓u_dput, ↓dputC_fz, dputO_dct, ownL_isL, ownD_isDc, live_isLv, isL_lst, isDc_dct, isLv_lst, isLv_fz, isLv_obj, isLv_dct, isLv_lsc, ↓u_meth, methO_lst, ↓u_app, appO_lst, ↓u_pop, ↓u_popAt, ↓u_clear, ↓u_asg, ↓u_gN, ↓u_gTu, ↓u_gsN, ↓u_gsC, ↓fldV_fz, fldO_obj, ↓fldK_fz, ↓fldK_ali, ↓u_fld, ↓u_callV, ↓outV_ok, ↓outV_ex, ↓u_callB, ↓outB_ok, ↓outB_ex, ↓outM_ok, ↓u_methV, ↓methD_obj, ↓outI_ok, ↓u_make, ↓u_fset, fset_0, fset_1, fset_2, fset_3, fset_4, fset_5, xc_endK, rt_endK, nx_endK, ↓u_for, ↓u_while, ↓u_lc, ↓u_itL, ↓itL_lst, ↓itL_tup, ↓itL_scr, ↓u_itU, ↓itU_tup, ↓u_rg1, ↓u_rg2, ↓u_lrg1, ↓u_lrg2, atI_0, atI_1, atI_2, atI_3, gSub_int, gDiv_int, gMod_int, gPow_18, gPow_6, gLt_int, gLe_int, gGt_int, gGe_int, gMax_int, gMin_int, gNeg_int, gInt_int, gInt_bl, gLen_lst, gLen_tup, gLen_scr, gLen_dct, gLen_str, gList_lst, gList_tup, gRev_lst, gSorted_li, gSorted_ti, gSum_li, gIsN_non, gIsN_int, gNotN_non, gNotN_int, gEq_int, gNe_int, gEq_LI, gNe_LI, gNe_LI0, gIn_int, gNotIn_int, ↓ixN_c0, ↓ixN_c1, ↓ixN_c2, ↓ixN_c3, frz_net, fget_needs, fget_roots, fget_wires, fget_net1, fget_kept, fget_used, fget_net2, fget_begin, fget_dark, fget_first, fget_far, fget_by, fget_net3, fget_state, fget_told, rangeD_upto, gIs_non, isB_int_non, isB_bool_non, isB_str_non, isB_list_non, isB_tuple_non, isB_dict_non, gIs_bl, isB_int_bl, isB_bool_bl, isB_str_bl, isB_list_bl, isB_tuple_bl, isB_dict_bl, gIs_int, isB_int_int, isB_bool_int, isB_str_int, isB_list_int, isB_tuple_int, isB_dict_int, gIs_str, isB_int_str, isB_bool_str, isB_str_str, isB_list_str, isB_tuple_str, isB_dict_str, gIs_tup, isB_int_tup, isB_bool_tup, isB_str_tup, isB_list_tup, isB_tuple_tup, isB_dict_tup, gIs_lst, isB_int_lst, isB_bool_lst, isB_str_lst, isB_list_lst, isB_tuple_lst, isB_dict_lst, gIs_dct, isB_int_dct, isB_bool_dct, isB_str_dct, isB_list_dct, isB_tuple_dct, isB_dict_dct, gNe_tt, gNe_ff, gNe_tf, gNe_ft, gEq_tt, gEq_ff, gIsN_lst, gNotN_lst, gIsN_tup, gNotN_tup, gIsN_str, gNotN_str, gIsN_bl, gNotN_bl, gIsN_dct, gNotN_dct, ↓rest_Dc, isLv_Dc, ↓u_callL, ↓outL_ok, ↓outL_ex, ↓outML_ok, ↓u_methL, ↓methLD_obj, ↓u_callB1, ↓b1A_two, ↓b1D_ali, ↓b1D_fz, ↓u_methB, ↓outMB_ok, isObj_obj, ↓u_fMinD, ↓minK_lst, ↓u_raise2, ↓r2K_two, ↓u_raise1, ↓r1K_one, ↓u_raise0, ↓u_try, kd_int, gDIn_yes, gDIn_no, varK_sqC, sv_sqV, ↓itL_sq, gList_sq, gLen_sq, gSorted_sq, gNe_nil2, gEq_nil2, gEq_LI0, ↓u_par, setAll_nil, setAll_cons, noAli_nil, noAli_fz, noAli_lst, noAli_dct, noAli_obj, gIsB_bl, ↓u_fdget, ↓u_fdcopy, ↓u_fdput, fldD_2, setFD_2, keyO_int, ↓u_dgetN, ↓dgetNK_dct, ↓u_forO, ↓forOC_lst, ↓u_lc2, ↓u_lk, ↓lkO_dct, ↓lkK_lst, noAli_dz, noAli_dz0, noAli_dz1, noAli_dz2, noAli_dz3, ↓u_itK, ↓itKO_dfz, ↓u_dzGet, ↓dzO_dfz, ↓u_join, ↓joinK_some, ↓u_split, ↓splK_str, ↓u_itS, ↓itSK_str, upto_length, Bool.not_true, Bool.not_false, decide_true, decide_false, Option.bind_some, Option.map_some, List.set_cons_zero, List.set_cons_succ, true_and, and_true, List.map_cons, List.map_nil, decide_eq_true_eq, Bool.and_eq_true, List.length_map, List.length_range, List.length_cons, List.length_nil, Nat.zero_add, Nat.reduceAdd, Nat.reduceLT, Nat.reduceLeDiff, Int.reduceToNat, Int.reduceLT, Int.reduceLE, List.getElem?_cons_zero, List.eraseIdx_cons_zero, List.all_cons, List.all_nil, Bool.and_true, Bool.true_and])
/-! # keeps, weak; the law -/
def wholeL (N : Nt) (br : List Int) : List Int := (upto N.wires.length).filter fun l => decide (l ∉ br)
theorem wholeL_in {N : Nt} {br : List Int} : ∀ l ∈ wholeL N br, 0 ≤ l ∧ l < N.wires.length := fun l h => mem_upto.mp ((List.mem_filter.mp h).1)
theorem wholeL_len (N : Nt) (br : List Int) : (wholeL N br).length ≤ N.wires.length := Nat.le_trans (List.length_filter_le _ _) (by simp)
theorem ls_whole {N : Nt} (ho : N.ok) (br : List Int) : N.ls (wholeL N br) := ⟨wholeL_in, by have := wholeL_len N br; have := ho.w10; omega⟩
theorem ls_filter {N : Nt} {sm : List Int} (h : N.ls sm) (f : Int → Bool) : N.ls (sm.filter f) := ⟨fun l hl => h.1 l (List.mem_filter.mp hl).1, Nat.le_trans (List.length_filter_le _ _) h.2⟩
@[reducible] def S_keeps : FSpec := ⟨Nt × List Int, none, fun a => [.fz a.1.d, .fz (.lst (a.2.map D.int))], fun a => a.1.ok, fun a o => o = .ok (.fz (.bl (decide (reachL a.1 (wholeL a.1 a.2) a.1.roots = upto a.1.n)))) .un⟩
noncomputable def weakL (N : Nt) (br : List Int) : List Int := (wholeL N br).filter fun l => decide (reachL N ((wholeL N br).filter fun k => decide (k ≠ l)) N.roots ≠ reachL N (wholeL N br) N.roots)
@[reducible] def S_weak : FSpec := ⟨Nt × List Int, none, fun a => [.fz a.1.d, .fz (.lst (a.2.map D.int))], fun a => a.1.ok, fun a o => o = .ok (.lst ((weakL a.1 a.2).map D.int)) .un⟩
def w_keeps : WS := (wSeq (wSet 2 (wLc 3 (wRg1 (wCons (w1 (fS gLen) (wFld 0 "wires" (wVar 0))) wNil)) (wB (w2 (fS (gInU true)) (wVar 3) (wVar 1))) (wVar 3))) (wRet (w2 (fS gEq) (wCallV S_reached (wCons (wVar 0) (wCons (wVar 2) (wCons (wFld 0 "roots" (wVar 0)) wNil)))) (wMethV 0 S_Net_places (wVar 0) wNil))))
def w_weak : WS := (wSeq (wSet 2 (wLc 4 (wRg1 (wCons (w1 (fS gLen) (wFld 0 "wires" (wVar 0))) wNil)) (wB (w2 (fS (gInU true)) (wVar 4) (wVar 1))) (wVar 4))) (wSeq (wSet 3 (wCallV S_reached (wCons (wVar 0) (wCons (wVar 2) (wCons (wFld 0 "roots" (wVar 0)) wNil))))) (wRet (wLc 4 (wItL (wVar 2)) (wB (w2 (fS gNe) (wCallV S_reached (wCons (wVar 0) (wCons (wLc 5 (wItL (wVar 2)) (wB (w2 (fS gNe) (wVar 5) (wVar 4))) (wVar 5)) (wCons (wFld 0 "roots" (wVar 0)) wNil)))) (wVar 3))) (wVar 4)))))
theorem map_fz (l : List Int) (f : Int → Bool) : ((l.filter f).map fun x => D.int x) = (l.filter f).map D.int := rfl
theorem whole_lc {N : Nt} {br : List Int} : ((upto N.wires.length).filter fun x => decide (x ∉ br)) = wholeL N br := rfl
theorem sem_keeps (a : Nt × List Int) (hp : S_keeps.pre a) : w_keeps (S_keeps.args a ++ List.replicate 2 .un) (endK S_keeps a) := by
  obtain ⟨N, br⟩ := a
  have ho : N.ok := hp
  have w10 := ho.w10
  have n10 := ho.n10
  show w_keeps [.fz (.obj 0 _), .fz (.lst (br.map D.int)), .un, .un] _
  unfold w_keeps
  refine seq_cut (fun ρ => ρ = [.fz N.d, .fz (.lst (br.map D.int)), .lst ((wholeL N br).map D.int), .un]) (fun M hM => ?_) ?_
  · walk_at "cl"
    refine ⟨small62_of _ (by omega) (by omega), ?_⟩
    refine lcI_ints (fun x => decide (x ∉ br)) (fun x => .int x) rfl (by simp; omega) ?_ ?_ ?_
    · intro x hx KT hK
      walk_at "cl"
      exact hK
    · intro x hx _ KD hK
      walk_at "cl"
      exact hK
    · walk_at "cl"
      exact hM _ rfl
  rintro _ rfl
  unfold Nt.d
  walk_at "cl"
  refine call_intro (N, (false, wholeL N br), N.roots) rfl ⟨ho, ls_whole ho br, ho.rn, ho.rr⟩ ?_
  rintro _ rfl
  walk_at "cl"
  refine call_intro N rfl ho ?_
  rintro _ rfl
  walk_at "cl"
  rfl
theorem sem_weak (a : Nt × List Int) (hp : S_weak.pre a) : w_weak (S_weak.args a ++ List.replicate 4 .un) (endK S_weak a) := by
  obtain ⟨N, br⟩ := a
  have ho : N.ok := hp
  have w10 := ho.w10
  have n10 := ho.n10
  have wl := wholeL_len N br
  show w_weak [.fz (.obj 0 _), .fz (.lst (br.map D.int)), .un, .un, .un, .un] _
  unfold w_weak
  refine seq_cut (fun ρ => ρ = [.fz N.d, .fz (.lst (br.map D.int)), .lst ((wholeL N br).map D.int), .un, .un, .un]) (fun M hM => ?_) ?_
  · walk_at "cl"
    refine ⟨small62_of _ (by omega) (by omega), ?_⟩
    refine lcI_ints (fun x => decide (x ∉ br)) (fun x => .int x) rfl (by simp; omega) ?_ ?_ ?_
    · intro x hx KT hK
      walk_at "cl"
      exact hK
    · intro x hx _ KD hK
      walk_at "cl"
      exact hK
    · walk_at "cl"
      exact hM _ rfl
  rintro _ rfl
  refine seq_cut (fun ρ => ρ = [.fz N.d, .fz (.lst (br.map D.int)), .fz (.lst ((wholeL N br).map D.int)), .lst ((reachL N (wholeL N br) N.roots).map D.int), .un, .un]) (fun M hM => ?_) ?_
  · unfold Nt.d
    walk_at "cl"
    refine call_intro (N, (false, wholeL N br), N.roots) rfl ⟨ho, ls_whole ho br, ho.rn, ho.rr⟩ ?_
    rintro _ rfl
    walk_at "cl"
    exact hM _ rfl
  rintro _ rfl
  unfold Nt.d
  walk_at "cl"
  refine lcI_ints (fun l => decide (reachL N ((wholeL N br).filter fun k => decide (k ≠ l)) N.roots ≠ reachL N (wholeL N br) N.roots)) (fun x => .int x) rfl (by omega) ?_ ?_ ?_
  · intro l hl KT hK
    walk_at "cl"
    refine lcI_ints (fun k => decide (k ≠ l)) (fun x => .int x) rfl (by omega) ?_ ?_ ?_
    · intro x hx KT hK
      walk_at "cl"
      exact hK
    · intro x hx _ KD hK
      walk_at "cl"
      exact hK
    · walk_at "cl"
      refine call_intro (N, (false, (wholeL N br).filter fun k => decide (k ≠ l)), N.roots) rfl ⟨ho, ls_filter (ls_whole ho br) _, ho.rn, ho.rr⟩ ?_
      rintro _ rfl
      walk_at "cl"
      exact hK
  · intro x hx _ KD hK
    walk_at "cl"
    exact hK
  · walk_at "cl"
    rfl
/-! the plain law -/
theorem reachL_srt (N : Nt) (sm : List Int) : reachL N.srt sm N.srt.roots = reachL N sm N.roots := by
  unfold reachL
  refine List.filter_congr fun x hx => ?_
  clear hx
  rw [decide_eq_decide]
  constructor
  · intro r
    induction r with
    | base h => exact .base ((isrt_perm N.roots).mem_iff.mp h)
    | step _ a ih => exact .step ih a
  · intro r
    induction r with
    | base h => exact .base ((isrt_perm N.roots).mem_iff.mpr h)
    | step _ a ih => exact .step ih a
theorem Nt.ok.srt {N : Nt} (h : N.ok) : N.srt.ok := ⟨h.n1, h.n10, h.nd, (isrt_perm N.roots).nodup_iff.mpr h.rn, fun s hs => h.rr s ((isrt_perm N.roots).mem_iff.mp hs), h.w10, h.wr⟩
theorem reach_ne {N : Nt} {sm sm' bg : List Int} (h : ∀ l ∈ sm, l ∈ sm') : (reachL N sm bg ≠ reachL N sm' bg) ↔ (reachL N sm bg).length < (reachL N sm' bg).length := by
  have sub : (reachL N sm bg).Sublist (reachL N sm' bg) := by
    have e : reachL N sm bg = (reachL N sm' bg).filter fun p => decide (p ∈ reachL N sm bg) := by
      refine lt_unique (reachL_lt _ _ _) ((reachL_lt _ _ _).sublist List.filter_sublist) fun x => ?_
      rw [List.mem_filter]
      simp only [decide_eq_true_eq]
      refine ⟨fun hx => ⟨?_, hx⟩, fun hx => hx.2⟩
      have := mem_reachL.mp hx
      exact mem_reachL.mpr ⟨this.1, this.2.mono h⟩
    rw [e]
    exact List.filter_sublist
  constructor
  · intro ne
    rcases Nat.lt_or_ge (reachL N sm bg).length (reachL N sm' bg).length with hl | hl
    · exact hl
    · exact absurd (sub.eq_of_length_le hl) ne
  · intro hl e
    rw [e] at hl
    omega
theorem reach_all (N : Nt) (sm bg : List Int) : (reachL N sm bg = upto N.n) ↔ (reachL N sm bg).length = N.n := by
  constructor
  · intro e; rw [e]; simp
  · intro e
    have sub : (reachL N sm bg).Sublist (upto N.n) := List.filter_sublist
    exact sub.eq_of_length_le (by rw [e]; simp)
end CL

namespace CL
open PySem L2
local macro_rules | `(tactic| walk_at "cl") => `(tactic| simp -dsimp only [br_true, br_false, ↓u_seq, ↓u_skip, ↓u_expr, ↓u_if, ↓u_ret, ↓retK_fz, ↓retK_lst, ↓retK_dct, ↓retK_obj, ↓retK_lsc, ↓retK_ali, ↓u_set, ↓rest_fz, ↓rest_lst, ↓rest_dct, ↓rest_obj, ↓rest_lsc, ↓rest_ali, ↓toD_fz, ↓toD_lst, ↓toD_dct, ↓toD_obj, ↓toD_lsc, ↓toD_ali, ↓toDs_nil, ↓toDs_cons, frz_fz, frz_lst, frz_dct, ↓u_var, varK_fz, varK_lst, varK_dct, varK_obj, varK_lsc, ↓u_C, ↓u_nil, ↓u_cons, ↓u_F, ↓u_fS, ↓u_fL, opt_some, opt_if, svs_nil, svs_cons, sv_fz, sv_lst, sv_dct, sv_ali, svO_lst, svO_fz, svO_dct, get0, getS, ↓u_B, ↓u_and, ↓u_or, ↓u_not, ↓u_yes, ↓u_andV, ↓u_orV, ↓u_notV, ↓u_ifE, ↓u_chain, ↓u_tup, ↓u_lst, ↓u_lsc, ↓u_dict0, ↓u_fAdd, ↓add_int, ↓add_str, ↓add_lst, ↓add_tup, ↓u_fMul, ↓mul_int, ↓mul_lst, ↓u_fIx, ↓ix_lst, ↓ix_tup, ↓ix_scr, ↓ix_str, ↓u_fTuple, ↓tup_lst, ↓tup_tup, ↓u_fDGet, ↓dget_dct, ↓u_sl, ↓sl_lst, ↓sl_tup, ↓sl_str, ↓u_no, ↓u_so, ↓u_lput, ↓lputK_int, lputO_lst, ↓u_dput, ↓dputC_fz, dputO_dct, ownL_isL, ownD_isDc, live_isLv, isL_lst, isDc_dct, isLv_lst, isLv_fz, isLv_obj, isLv_dct, isLv_lsc, ↓u_meth, methO_lst, ↓u_app, appO_lst, ↓u_pop, ↓u_popAt, ↓u_clear, ↓u_asg, ↓u_gN, ↓u_gTu, ↓u_gsN, ↓u_gsC, ↓fldV_fz, fldO_obj, ↓fldK_fz, ↓fldK_ali, ↓u_fld, ↓u_callV, ↓outV_ok, ↓outV_ex, ↓u_callB, ↓outB_ok, ↓outB_ex, ↓outM_ok, ↓u_methV, ↓methD_obj, ↓outI_ok, ↓u_make, ↓u_fset, fset_0, fset_1, fset_2, fset_3, fset_4, fset_5, xc_endK, rt_endK, nx_endK, ↓u_for, ↓u_while, ↓u_lc, ↓u_itL, ↓itL_lst, ↓itL_tup, ↓itL_scr, ↓u_itU, ↓itU_tup, ↓u_rg1, ↓u_rg2, ↓u_lrg1, ↓u_lrg2, atI_0, atI_1, atI_2, atI_3, gSub_int, gDiv_int, gMod_int, gPow_18, gPow_6, gLt_int, gLe_int, gGt_int, gGe_int, gMax_int, gMin_int, gNeg_int, gInt_int, gInt_bl, gLen_lst, gLen_tup, gLen_scr, gLen_dct, gLen_str, gList_lst, gList_tup, gRev_lst, gSorted_li, gSorted_ti, gSum_li, gIsN_non, gIsN_int, gNotN_non, gNotN_int, gEq_int, gNe_int, gEq_LI, gNe_LI, gNe_LI0, gIn_int, gNotIn_int, ↓ixN_c0, ↓ixN_c1, ↓ixN_c2, ↓ixN_c3, frz_net, fget_needs, fget_roots, fget_wires, fget_net1, fget_kept, fget_used, fget_net2, fget_begin, fget_dark, fget_first, fget_far, fget_by, fget_net3, fget_state, fget_told, rangeD_upto, gIs_non, isB_int_non, isB_bool_non, isB_str_non, isB_list_non, isB_tuple_non, isB_dict_non, gIs_bl, isB_int_bl, isB_bool_bl, isB_str_bl, isB_list_bl, isB_tuple_bl, isB_dict_bl, gIs_int, isB_int_int, isB_bool_int, isB_str_int, isB_list_int, isB_tuple_int, isB_dict_int, gIs_str, isB_int_str, isB_bool_str, isB_str_str, isB_list_str, isB_tuple_str, isB_dict_str, gIs_tup, isB_int_tup, isB_bool_tup, isB_str_tup, isB_list_tup, isB_tuple_tup, isB_dict_tup, gIs_lst, isB_int_lst, isB_bool_lst, isB_str_lst, isB_list_lst, isB_tuple_lst, isB_dict_lst, gIs_dct, isB_int_dct, isB_bool_dct, isB_str_dct, isB_list_dct, isB_tuple_dct, isB_dict_dct, gNe_tt, gNe_ff, gNe_tf, gNe_ft, gEq_tt, gEq_ff, gIsN_lst, gNotN_lst, gIsN_tup, gNotN_tup, gIsN_str, gNotN_str, gIsN_bl, gNotN_bl, gIsN_dct, gNotN_dct, ↓rest_Dc, isLv_Dc, ↓u_callL, ↓outL_ok, ↓outL_ex, ↓outML_ok, ↓u_methL, ↓methLD_obj, ↓u_callB1, ↓b1A_two, ↓b1D_ali, ↓b1D_fz, ↓u_methB, ↓outMB_ok, isObj_obj, ↓u_fMinD, ↓minK_lst, ↓u_raise2, ↓r2K_two, ↓u_raise1, ↓r1K_one, ↓u_raise0, ↓u_try, kd_int, gDIn_yes, gDIn_no, varK_sqC, sv_sqV, ↓itL_sq, gList_sq, gLen_sq, gSorted_sq, gNe_nil2, gEq_nil2, gEq_LI0, ↓u_par, setAll_nil, setAll_cons, noAli_nil, noAli_fz, noAli_lst, noAli_dct, noAli_obj, gIsB_bl, ↓u_fdget, ↓u_fdcopy, ↓u_fdput, fldD_2, setFD_2, keyO_int, ↓u_dgetN, ↓dgetNK_dct, ↓u_forO, ↓forOC_lst, ↓u_lc2, ↓u_lk, ↓lkO_dct, ↓lkK_lst, noAli_dz, noAli_dz0, noAli_dz1, noAli_dz2, noAli_dz3, ↓u_itK, ↓itKO_dfz, ↓u_dzGet, ↓dzO_dfz, ↓u_join, ↓joinK_some, ↓u_split, ↓splK_str, ↓u_itS, ↓itSK_str, upto_length, Bool.not_true, Bool.not_false, decide_true, decide_false, Option.bind_some, Option.map_some, List.set_cons_zero, List.set_cons_succ, true_and, and_true, List.map_cons, List.map_nil, decide_eq_true_eq, Bool.and_eq_true, List.length_map, List.length_range, List.length_cons, List.length_nil, Nat.zero_add, Nat.reduceAdd, Nat.reduceLT, Nat.reduceLeDiff, Int.reduceToNat, Int.reduceLT, Int.reduceLE, List.getElem?_cons_zero, List.eraseIdx_cons_zero, List.all_cons, List.all_nil, Bool.and_true, Bool.true_and])
/-! # a net's text -/
theorem lcI_encX {α : Type} {i : Nat} (enc : α → D) {xs : List α} {ρ : Env} {t : Env → (Bool → Env → Prop) → Prop} {w : Env → (D → Env → Prop) → Prop} {done : List D → Env → Prop} {t1 : Tk t} {t2 : Tk w} {t3 : Tk done} (tf : α → Bool) (g : α → D)
    (hu : ρ[i]? = some .un) (hl : xs.length ≤ 1000000) (h : ∀ x ∈ xs, ∀ KT, KT (tf x) (ρ.set i (.fz (enc x))) → t (ρ.set i (.fz (enc x))) KT)
    (hw : ∀ x ∈ xs, tf x = true → ∀ KD, KD (g x) (ρ.set i (.fz (enc x))) → w (ρ.set i (.fz (enc x))) KD) (k : done ((xs.filter tf).map g) ρ) : lcI i (xs.map enc) ρ t w done t1 t2 t3 := by
  have hi : i < ρ.length := (List.getElem?_eq_some_iff.mp hu).1
  refine lcI_intro (fun n acc ρ' => n ≤ xs.length ∧ acc = ((xs.take n).filter tf).map g ∧ ρ' = ρ) ⟨Nat.zero_le _, rfl, set_self hu⟩ ?_ ?_
  · rintro n d acc _ hd ⟨hn, rfl, rfl⟩
    obtain ⟨x, hx, rfl⟩ : ∃ x, xs[n]? = some x ∧ enc x = d := by simpa using hd
    have hlt : n < xs.length := (List.getElem?_eq_some_iff.mp hx).1
    have hm : x ∈ xs := List.mem_of_getElem? hx
    have ts : (xs.take (n + 1)).filter tf = (xs.take n).filter tf ++ if tf x = true then [x] else [] := by
      rw [List.take_succ, hx, List.filter_append]
      simp [List.filter_cons]
    refine ⟨hi, h x hm _ ?_⟩
    refine br_intro (fun g1 => ?_) (fun g1 => ?_)
    · refine hw x hm g1 _ ⟨?_, hlt, ?_, by rw [List.set_set, set_self hu]⟩
      · refine lt_line ?_
        rw [List.length_map]
        exact Nat.le_trans (List.length_filter_le _ _) (by rw [List.length_take]; omega)
      · rw [ts, if_pos g1, List.map_append]
        rfl
    · refine ⟨hlt, ?_, by rw [List.set_set, set_self hu]⟩
      rw [ts, if_neg (by rw [g1]; decide), List.append_nil]
  · rintro acc _ ⟨_, rfl, rfl⟩
    refine ⟨hu, ?_⟩
    rw [List.length_map, List.take_length]
    exact k
def strN (i : Int) : Str := Str.ofString (toString i)
def needP (N : Nt) (p : Int) : Int := N.needs.getD p.toNat 0
def wordP (N : Nt) (p : Int) : Str := if p ∈ N.roots then "source" else "place"
def placeRow (N : Nt) (p : Int) : Str := wordP N p ++ " " ++ strN (needP N p)
def lineRow (w : Wr) : Str := "line " ++ strN w.1 ++ " " ++ strN w.2.1 ++ " " ++ strN w.2.2
def rowsN (N : Nt) : List Str := (upto N.n).map (placeRow N) ++ N.wires.map lineRow
def textN (N : Nt) : Str := Txt.join "\n" (rowsN N)
/-- a number of a net -/
abbrev Sm (i : Int) : Prop := 0 ≤ i ∧ i ≤ 1000000
theorem len_app (a b : Str) : (a ++ b).length = a.length + b.length := by
  rw [TL.len_tl, TL.len_tl, TL.len_tl, TL.tl_append, List.length_append]
theorem strN_num {i : Int} (h : 0 ≤ i) : TL.tl (strN i) = TL.numL i.toNat := by
  obtain ⟨n, rfl⟩ := Int.eq_ofNat_of_zero_le h
  exact TL.tl_num n
theorem strN_len {i : Int} (h : Sm i) : (strN i).length ≤ 7 := by
  rw [TL.len_tl, strN_num h.1]
  exact TL.numL_len (by decide) (by omega)
theorem gStr1_ok {i : Int} (h : Sm i) : gStr1 [.int i] = some (.str (strN i)) := by
  have : i.natAbs.log2 < 1920 := by
    by_cases z : i.natAbs = 0
    · rw [z]; decide
    · rw [Nat.log2_lt z]
      have : i.natAbs ≤ 1000000 := by omega
      exact Nat.lt_of_le_of_lt this (by decide +kernel)
  show (if _ then _ else _) = _
  rw [if_pos this]
  rfl
theorem word_len (N : Nt) (p : Int) : (wordP N p).length ≤ 6 := by
  unfold wordP
  split <;> decide +kernel
theorem placeRow_len {N : Nt} (ho : N.ok) {p : Int} (h : Sm (needP N p)) : (placeRow N p).length ≤ 14 := by
  unfold placeRow
  rw [len_app, len_app]
  have := word_len N p
  have := strN_len h
  have : (" " : Str).length = 1 := by decide +kernel
  omega
theorem lineRow_len {w : Wr} (h1 : Sm w.1) (h2 : Sm w.2.1) (h3 : Sm w.2.2) : (lineRow w).length ≤ 28 := by
  unfold lineRow
  rw [len_app, len_app, len_app, len_app, len_app]
  have := strN_len h1
  have := strN_len h2
  have := strN_len h3
  have : (" " : Str).length = 1 := by decide +kernel
  have : ("line " : Str).length = 5 := by decide +kernel
  omega
end CL

namespace CL
open PySem L2
local macro_rules | `(tactic| walk_at "cl") => `(tactic| simp -dsimp only [br_true, br_false, ↓u_seq, ↓u_skip, ↓u_expr, ↓u_if, ↓u_ret, ↓retK_fz, ↓retK_lst, ↓retK_dct, ↓retK_obj, ↓retK_lsc, ↓retK_ali, ↓u_set, ↓rest_fz, ↓rest_lst, ↓rest_dct, ↓rest_obj, ↓rest_lsc, ↓rest_ali, ↓toD_fz, ↓toD_lst, ↓toD_dct, ↓toD_obj, ↓toD_lsc, ↓toD_ali, ↓toDs_nil, ↓toDs_cons, frz_fz, frz_lst, frz_dct, ↓u_var, varK_fz, varK_lst, varK_dct, varK_obj, varK_lsc, ↓u_C, ↓u_nil, ↓u_cons, ↓u_F, ↓u_fS, ↓u_fL, opt_some, opt_if, svs_nil, svs_cons, sv_fz, sv_lst, sv_dct, sv_ali, svO_lst, svO_fz, svO_dct, get0, getS, ↓u_B, ↓u_and, ↓u_or, ↓u_not, ↓u_yes, ↓u_andV, ↓u_orV, ↓u_notV, ↓u_ifE, ↓u_chain, ↓u_tup, ↓u_lst, ↓u_lsc, ↓u_dict0, ↓u_fAdd, ↓add_int, ↓add_str, ↓add_lst, ↓add_tup, ↓u_fMul, ↓mul_int, ↓mul_lst, ↓u_fIx, ↓ix_lst, ↓ix_tup, ↓ix_scr, ↓ix_str, ↓u_fTuple, ↓tup_lst, ↓tup_tup, ↓u_fDGet, ↓dget_dct, ↓u_sl, ↓sl_lst, ↓sl_tup, ↓sl_str, ↓u_no, ↓u_so, ↓u_lput, ↓lputK_int, lputO_lst, ↓u_dput, ↓dputC_fz, dputO_dct, ownL_isL, ownD_isDc, live_isLv, isL_lst, isDc_dct, isLv_lst, isLv_fz, isLv_obj, isLv_dct, isLv_lsc, ↓u_meth, methO_lst, ↓u_app, appO_lst, ↓u_pop, ↓u_popAt, ↓u_clear, ↓u_asg, ↓u_gN, ↓u_gTu, ↓u_gsN, ↓u_gsC, ↓fldV_fz, fldO_obj, ↓fldK_fz, ↓fldK_ali, ↓u_fld, ↓u_callV, ↓outV_ok, ↓outV_ex, ↓u_callB, ↓outB_ok, ↓outB_ex, ↓outM_ok, ↓u_methV, ↓methD_obj, ↓outI_ok, ↓u_make, ↓u_fset, fset_0, fset_1, fset_2, fset_3, fset_4, fset_5, xc_endK, rt_endK, nx_endK, ↓u_for, ↓u_while, ↓u_lc, ↓u_itL, ↓itL_lst, ↓itL_tup, ↓itL_scr, ↓u_itU, ↓itU_tup, ↓u_rg1, ↓u_rg2, ↓u_lrg1, ↓u_lrg2, atI_0, atI_1, atI_2, atI_3, gSub_int, gDiv_int, gMod_int, gPow_18, gPow_6, gLt_int, gLe_int, gGt_int, gGe_int, gMax_int, gMin_int, gNeg_int, gInt_int, gInt_bl, gLen_lst, gLen_tup, gLen_scr, gLen_dct, gLen_str, gList_lst, gList_tup, gRev_lst, gSorted_li, gSorted_ti, gSum_li, gIsN_non, gIsN_int, gNotN_non, gNotN_int, gEq_int, gNe_int, gEq_LI, gNe_LI, gNe_LI0, gIn_int, gNotIn_int, ↓ixN_c0, ↓ixN_c1, ↓ixN_c2, ↓ixN_c3, frz_net, fget_needs, fget_roots, fget_wires, fget_net1, fget_kept, fget_used, fget_net2, fget_begin, fget_dark, fget_first, fget_far, fget_by, fget_net3, fget_state, fget_told, rangeD_upto, gIs_non, isB_int_non, isB_bool_non, isB_str_non, isB_list_non, isB_tuple_non, isB_dict_non, gIs_bl, isB_int_bl, isB_bool_bl, isB_str_bl, isB_list_bl, isB_tuple_bl, isB_dict_bl, gIs_int, isB_int_int, isB_bool_int, isB_str_int, isB_list_int, isB_tuple_int, isB_dict_int, gIs_str, isB_int_str, isB_bool_str, isB_str_str, isB_list_str, isB_tuple_str, isB_dict_str, gIs_tup, isB_int_tup, isB_bool_tup, isB_str_tup, isB_list_tup, isB_tuple_tup, isB_dict_tup, gIs_lst, isB_int_lst, isB_bool_lst, isB_str_lst, isB_list_lst, isB_tuple_lst, isB_dict_lst, gIs_dct, isB_int_dct, isB_bool_dct, isB_str_dct, isB_list_dct, isB_tuple_dct, isB_dict_dct, gNe_tt, gNe_ff, gNe_tf, gNe_ft, gEq_tt, gEq_ff, gIsN_lst, gNotN_lst, gIsN_tup, gNotN_tup, gIsN_str, gNotN_str, gIsN_bl, gNotN_bl, gIsN_dct, gNotN_dct, ↓rest_Dc, isLv_Dc, ↓u_callL, ↓outL_ok, ↓outL_ex, ↓outML_ok, ↓u_methL, ↓methLD_obj, ↓u_callB1, ↓b1A_two, ↓b1D_ali, ↓b1D_fz, ↓u_methB, ↓outMB_ok, isObj_obj, ↓u_fMinD, ↓minK_lst, ↓u_raise2, ↓r2K_two, ↓u_raise1, ↓r1K_one, ↓u_raise0, ↓u_try, kd_int, gDIn_yes, gDIn_no, varK_sqC, sv_sqV, ↓itL_sq, gList_sq, gLen_sq, gSorted_sq, gNe_nil2, gEq_nil2, gEq_LI0, ↓u_par, setAll_nil, setAll_cons, noAli_nil, noAli_fz, noAli_lst, noAli_dct, noAli_obj, gIsB_bl, ↓u_fdget, ↓u_fdcopy, ↓u_fdput, fldD_2, setFD_2, keyO_int, ↓u_dgetN, ↓dgetNK_dct, ↓u_forO, ↓forOC_lst, ↓u_lc2, ↓u_lk, ↓lkO_dct, ↓lkK_lst, noAli_dz, noAli_dz0, noAli_dz1, noAli_dz2, noAli_dz3, ↓u_itK, ↓itKO_dfz, ↓u_dzGet, ↓dzO_dfz, ↓u_join, ↓joinK_some, ↓u_split, ↓splK_str, ↓u_itS, ↓itSK_str, upto_length, Bool.not_true, Bool.not_false, decide_true, decide_false, Option.bind_some, Option.map_some, List.set_cons_zero, List.set_cons_succ, true_and, and_true, List.map_cons, List.map_nil, decide_eq_true_eq, Bool.and_eq_true, List.length_map, List.length_range, List.length_cons, List.length_nil, Nat.zero_add, Nat.reduceAdd, Nat.reduceLT, Nat.reduceLeDiff, Int.reduceToNat, Int.reduceLT, Int.reduceLE, List.getElem?_cons_zero, List.eraseIdx_cons_zero, List.all_cons, List.all_nil, Bool.and_true, Bool.true_and])
/-! # written -/
theorem joinD_ok (z : Str) {ys : List Str} (h : (ys.map (·.length)).sum + ys.length * z.length ≤ 16777216) : joinD z (.lst (ys.map D.str)) = some (Txt.join z ys) := by
  show (asStrs (ys.map D.str)).bind _ = _
  rw [strs_map, Option.bind_some, if_pos h]
theorem sum_len (k : Nat) : ∀ ys : List Str, (∀ y ∈ ys, y.length ≤ k) → (ys.map (·.length)).sum ≤ ys.length * k
  | [], _ => by simp
  | y :: r, h => by
    have := sum_len k r fun x hx => h x (List.mem_cons_of_mem _ hx)
    have := h y List.mem_cons_self
    rw [List.map_cons, List.sum_cons, List.length_cons, Nat.succ_mul]
    omega
theorem needP_sm {N : Nt} (ho : N.ok) {p : Int} (hp : 0 ≤ p ∧ p < N.n) : Sm (needP N p) ∧ atI (N.needs.map D.int) p = some (.int (needP N p)) := by
  have hl : p.toNat < N.needs.length := by have : N.n = N.needs.length := rfl; omega
  have e : needP N p = N.needs[p.toNat] := by
    unfold needP
    rw [List.getD_eq_getElem?_getD, List.getElem?_eq_getElem hl]
    rfl
  refine ⟨by rw [e]; exact ho.nd _ (List.getElem_mem hl), atI_nat hp.1 ?_⟩
  rw [List.getElem?_map, List.getElem?_eq_getElem hl, e]
  rfl
theorem rows_len {N : Nt} (ho : N.ok) : ∀ y ∈ rowsN N, y.length ≤ 28 := fun y hy => by
  rcases List.mem_append.mp hy with h | h
  · obtain ⟨p, hp, rfl⟩ := List.mem_map.mp h
    have := placeRow_len ho (needP_sm ho (mem_upto.mp hp)).1
    omega
  · obtain ⟨w, hw, rfl⟩ := List.mem_map.mp h
    have b := ho.wr w hw
    have n10 := ho.n10
    exact lineRow_len ⟨b.1.1, by omega⟩ ⟨b.2.1.1, by omega⟩ b.2.2.2
@[reducible] def S_written : FSpec := ⟨Nt, none, fun N => [.fz N.d], fun N => N.ok, fun N o => o = .ok (.fz (.str (textN N))) .un⟩
def w_written : WS := (wSeq (wSet 1 (wLst wNil)) (wSeq (wFor (wItL (wMethV 0 S_Net_places (wVar 0) wNil)) (gN 2) (wSeq (wSet 3 (wC (.str "place"))) (wSeq (wIf (wB (w2 (fS (gInU false)) (wVar 2) (wFld 0 "roots" (wVar 0)))) (wSet 3 (wC (.str "source"))) wSkip) (wExpr (wMeth 1 (wCons (w2 fAdd (w2 fAdd (wVar 3) (wC (.str " "))) (w1 (fS gStr1) (w2 fIx (wFld 0 "needs" (wVar 0)) (wVar 2)))) wNil) (mApp 1)))))) (wSeq (wFor (wItL (wFld 0 "wires" (wVar 0))) (gTu 3 (gsC (gN 4) (gsC (gN 5) (gsC (gN 6) gsN)))) (wExpr (wMeth 1 (wCons (w2 fAdd (w2 fAdd (w2 fAdd (w2 fAdd (w2 fAdd (wC (.str "line ")) (w1 (fS gStr1) (wVar 4))) (wC (.str " "))) (w1 (fS gStr1) (wVar 5))) (wC (.str " "))) (w1 (fS gStr1) (wVar 6))) wNil) (mApp 1)))) (wRet (wJoin "\n" (wVar 1))))))
theorem sem_written (N : Nt) (hp : S_written.pre N) : w_written (S_written.args N ++ List.replicate 6 .un) (endK S_written N) := by
  have ho : N.ok := hp
  have n10 : N.n ≤ 10 := ho.n10
  have w10 := ho.w10
  have l1 : (" " : Str).length = 1 := by decide +kernel
  have l5 : ("line " : Str).length = 5 := by decide +kernel
  show w_written [.fz N.d, .un, .un, .un, .un, .un, .un] _
  unfold w_written
  refine seq_cut (fun ρ => ρ = [.fz N.d, .lst (([] : List Str).map D.str), .un, .un, .un, .un, .un]) (fun M hM => ?_) ?_
  · walk_at "cl"
    exact hM _ rfl
  rintro _ rfl
  refine seq_cut (fun ρ => ∃ c2 c3, ρ = [.fz N.d, .lst (((upto N.n).map (placeRow N)).map D.str), c2, c3, .un, .un, .un]) (fun M hM => ?_) ?_
  · unfold Nt.d
    walk_at "cl"
    refine call_intro N rfl ho ?_
    rintro _ rfl
    walk_at "cl"
    refine forI_intro (fun n ρ => n ≤ N.n ∧ ∃ c2 c3, ρ = [.fz N.d, .lst ((((upto N.n).take n).map (placeRow N)).map D.str), c2, c3, .un, .un, .un]) ⟨Nat.zero_le _, _, _, rfl⟩ ?_ ?_
    · rintro n x _ hx ⟨hle, c2, c3, rfl⟩
      obtain ⟨hn, rfl⟩ := upto_item hx
      have hn' : n < N.n := hn
      have tk : (upto N.n).take (n + 1) = (upto N.n).take n ++ [(n : Int)] := by rw [List.take_succ, upto_get hn']; rfl
      obtain ⟨sm, ea⟩ := needP_sm ho (p := (n : Int)) ⟨by omega, by omega⟩
      rw [u_gN]
      refine ⟨by simp, ?_⟩
      refine seq_cut (fun ρ => ρ = [.fz N.d, .lst ((((upto N.n).take n).map (placeRow N)).map D.str), .fz (.int (n : Int)), .fz (.str "place"), .un, .un, .un]) (fun M2 hM2 => ?_) ?_
      · walk_at "cl"
        exact hM2 _ rfl
      rintro _ rfl
      refine seq_cut (fun ρ => ρ = [.fz N.d, .lst ((((upto N.n).take n).map (placeRow N)).map D.str), .fz (.int (n : Int)), .fz (.str (wordP N n)), .un, .un, .un]) (fun M2 hM2 => ?_) ?_
      · unfold Nt.d
        walk_at "cl"
        refine br_intro (fun g => ?_) (fun g => ?_)
        · have g' := of_decide_eq_true g
          walk_at "cl"
          refine hM2 _ ?_
          unfold wordP
          rw [if_pos g']
          rfl
        · have g' := of_decide_eq_false g
          walk_at "cl"
          refine hM2 _ ?_
          unfold wordP
          rw [if_neg g']
          rfl
      rintro _ rfl
      have wl := word_len N n
      have sl := strN_len sm
      rw [tk]
      unfold Nt.d
      walk_at "cl"
      rw [ea]
      walk_at "cl"
      rw [gStr1_ok sm]
      walk_at "cl"
      refine ⟨Nat.le_of_lt (lt_line (by rw [show (Str.ofString " ").length = 1 from l1]; omega)), Nat.le_of_lt (lt_line (by rw [len_app, show (Str.ofString " ").length = 1 from l1]; omega)), lt_line (by rw [List.length_take]; omega), lt_line (by rw [List.length_take]; omega), hn', .fz (.int (n : Int)), .fz (.str (wordP N n)), ?_⟩
      rw [List.map_append, List.map_append]
      rfl
    · rintro _ ⟨_, c2, c3, rfl⟩
      have e : ((upto N.n).take ((upto N.needs.length).map D.int).length) = upto N.n := List.take_of_length_le (by rw [List.length_map]; exact Nat.le_refl _)
      rw [e]
      exact hM _ ⟨_, _, rfl⟩
  rintro _ ⟨c2, c3, rfl⟩
  refine seq_cut (fun ρ => ∃ c4 c5 c6, ρ = [.fz N.d, .lst ((rowsN N).map D.str), c2, c3, c4, c5, c6]) (fun M hM => ?_) ?_
  · unfold Nt.d
    walk_at "cl"
    refine forI_intro (fun n ρ => n ≤ N.wires.length ∧ ∃ c4 c5 c6, ρ = [.fz N.d, .lst (((upto N.n).map (placeRow N) ++ (N.wires.take n).map lineRow).map D.str), c2, c3, c4, c5, c6]) ⟨Nat.zero_le _, _, _, _, by rw [List.take_zero, List.map_nil, List.append_nil]; rfl⟩ ?_ ?_
    · rintro n x _ hx ⟨hle, c4, c5, c6, rfl⟩
      obtain ⟨w, hy, rfl⟩ : ∃ y, N.wires[n]? = some y ∧ encW y = x := by simpa using hx
      have hlt : n < N.wires.length := (List.getElem?_eq_some_iff.mp hy).1
      have tk : N.wires.take (n + 1) = N.wires.take n ++ [w] := by rw [List.take_succ, hy]; rfl
      have b := ho.wr w (List.mem_of_getElem? hy)
      have nn : N.n = N.needs.length := rfl
      have s1 : Sm w.1 := ⟨b.1.1, by omega⟩
      have s2 : Sm w.2.1 := ⟨b.2.1.1, by omega⟩
      have s3 : Sm w.2.2 := b.2.2.2
      have q1 := strN_len s1
      have q2 := strN_len s2
      have q3 := strN_len s3
      have ll : ((upto N.n).map (placeRow N) ++ (N.wires.take n).map lineRow).length ≤ 20 := by
        rw [List.length_append, List.length_map, List.length_map, upto_length, List.length_take]
        omega
      rw [tk]
      unfold encW
      walk_at "cl"
      rw [gStr1_ok s1]
      walk_at "cl"
      rw [gStr1_ok s2]
      walk_at "cl"
      rw [gStr1_ok s3]
      walk_at "cl"
      have l1' : (Str.ofString " ").length = 1 := l1
      have l5' : (Str.ofString "line ").length = 5 := l5
      refine ⟨Nat.le_of_lt (lt_line (by simp only [len_app, l1', l5']; omega)), Nat.le_of_lt (lt_line (by simp only [len_app, l1', l5']; omega)), Nat.le_of_lt (lt_line (by simp only [len_app, l1', l5']; omega)), Nat.le_of_lt (lt_line (by simp only [len_app, l1', l5']; omega)), Nat.le_of_lt (lt_line (by simp only [len_app, l1', l5']; omega)), lt_line (by omega), lt_line (by omega), hlt, .fz (.int w.1), .fz (.int w.2.1), .fz (.int w.2.2), ?_⟩
      have e : (((upto N.n).map (placeRow N) ++ (N.wires.take n).map lineRow).map D.str ++ [D.str (lineRow w)]) = ((upto N.n).map (placeRow N) ++ (N.wires.take n ++ [w]).map lineRow).map D.str := by
        rw [List.map_append (f := lineRow), ← List.append_assoc, List.map_append (l₁ := _ ++ _)]
        rfl
      rw [← e]
      rfl
    · rintro _ ⟨_, c4, c5, c6, rfl⟩
      rw [List.length_map, List.take_length]
      exact hM _ ⟨_, _, _, rfl⟩
  rintro _ ⟨c4, c5, c6, rfl⟩
  have rl : (rowsN N).length ≤ 20 := by
    unfold rowsN
    rw [List.length_append, List.length_map, List.length_map, upto_length]
    omega
  have sl := sum_len 28 (rowsN N) (rows_len ho)
  have ln : ("\n" : Str).length = 1 := by decide +kernel
  walk_at "cl"
  rw [joinD_ok "\n" (by rw [ln]; omega)]
  rfl
end CL

namespace CL
open PySem L2
local macro_rules | `(tactic| walk_at "cl") => `(tactic| simp -dsimp only [br_true, br_false, ↓u_seq, ↓u_skip, ↓u_expr, ↓u_if, ↓u_ret, ↓retK_fz, ↓retK_lst, ↓retK_dct, ↓retK_obj, ↓retK_lsc, ↓retK_ali, ↓u_set, ↓rest_fz, ↓rest_lst, ↓rest_dct, ↓rest_obj, ↓rest_lsc, ↓rest_ali, ↓toD_fz, ↓toD_lst, ↓toD_dct, ↓toD_obj, ↓toD_lsc, ↓toD_ali, ↓toDs_nil, ↓toDs_cons, frz_fz, frz_lst, frz_dct, ↓u_var, varK_fz, varK_lst, varK_dct, varK_obj, varK_lsc, ↓u_C, ↓u_nil, ↓u_cons, ↓u_F, ↓u_fS, ↓u_fL, opt_some, opt_if, svs_nil, svs_cons, sv_fz, sv_lst, sv_dct, sv_ali, svO_lst, svO_fz, svO_dct, get0, getS, ↓u_B, ↓u_and, ↓u_or, ↓u_not, ↓u_yes, ↓u_andV, ↓u_orV, ↓u_notV, ↓u_ifE, ↓u_chain, ↓u_tup, ↓u_lst, ↓u_lsc, ↓u_dict0, ↓u_fAdd, ↓add_int, ↓add_str, ↓add_lst, ↓add_tup, ↓u_fMul, ↓mul_int, ↓mul_lst, ↓u_fIx, ↓ix_lst, ↓ix_tup, ↓ix_scr, ↓ix_str, ↓u_fTuple, ↓tup_lst, ↓tup_tup, ↓u_fDGet, ↓dget_dct, ↓u_sl, ↓sl_lst, ↓sl_tup, ↓sl_str, ↓u_no, ↓u_so, ↓u_lput, ↓lputK_int, lputO_lst, ↓u_dput, ↓dputC_fz, dputO_dct, ownL_isL, ownD_isDc, live_isLv, isL_lst, isDc_dct, isLv_lst, isLv_fz, isLv_obj, isLv_dct, isLv_lsc, ↓u_meth, methO_lst, ↓u_app, appO_lst, ↓u_pop, ↓u_popAt, ↓u_clear, ↓u_asg, ↓u_gN, ↓u_gTu, ↓u_gsN, ↓u_gsC, ↓fldV_fz, fldO_obj, ↓fldK_fz, ↓fldK_ali, ↓u_fld, ↓u_callV, ↓outV_ok, ↓outV_ex, ↓u_callB, ↓outB_ok, ↓outB_ex, ↓outM_ok, ↓u_methV, ↓methD_obj, ↓outI_ok, ↓u_make, ↓u_fset, fset_0, fset_1, fset_2, fset_3, fset_4, fset_5, xc_endK, rt_endK, nx_endK, ↓u_for, ↓u_while, ↓u_lc, ↓u_itL, ↓itL_lst, ↓itL_tup, ↓itL_scr, ↓u_itU, ↓itU_tup, ↓u_rg1, ↓u_rg2, ↓u_lrg1, ↓u_lrg2, atI_0, atI_1, atI_2, atI_3, gSub_int, gDiv_int, gMod_int, gPow_18, gPow_6, gLt_int, gLe_int, gGt_int, gGe_int, gMax_int, gMin_int, gNeg_int, gInt_int, gInt_bl, gLen_lst, gLen_tup, gLen_scr, gLen_dct, gLen_str, gList_lst, gList_tup, gRev_lst, gSorted_li, gSorted_ti, gSum_li, gIsN_non, gIsN_int, gNotN_non, gNotN_int, gEq_int, gNe_int, gEq_LI, gNe_LI, gNe_LI0, gIn_int, gNotIn_int, ↓ixN_c0, ↓ixN_c1, ↓ixN_c2, ↓ixN_c3, frz_net, fget_needs, fget_roots, fget_wires, fget_net1, fget_kept, fget_used, fget_net2, fget_begin, fget_dark, fget_first, fget_far, fget_by, fget_net3, fget_state, fget_told, rangeD_upto, gIs_non, isB_int_non, isB_bool_non, isB_str_non, isB_list_non, isB_tuple_non, isB_dict_non, gIs_bl, isB_int_bl, isB_bool_bl, isB_str_bl, isB_list_bl, isB_tuple_bl, isB_dict_bl, gIs_int, isB_int_int, isB_bool_int, isB_str_int, isB_list_int, isB_tuple_int, isB_dict_int, gIs_str, isB_int_str, isB_bool_str, isB_str_str, isB_list_str, isB_tuple_str, isB_dict_str, gIs_tup, isB_int_tup, isB_bool_tup, isB_str_tup, isB_list_tup, isB_tuple_tup, isB_dict_tup, gIs_lst, isB_int_lst, isB_bool_lst, isB_str_lst, isB_list_lst, isB_tuple_lst, isB_dict_lst, gIs_dct, isB_int_dct, isB_bool_dct, isB_str_dct, isB_list_dct, isB_tuple_dct, isB_dict_dct, gNe_tt, gNe_ff, gNe_tf, gNe_ft, gEq_tt, gEq_ff, gIsN_lst, gNotN_lst, gIsN_tup, gNotN_tup, gIsN_str, gNotN_str, gIsN_bl, gNotN_bl, gIsN_dct, gNotN_dct, ↓rest_Dc, isLv_Dc, ↓u_callL, ↓outL_ok, ↓outL_ex, ↓outML_ok, ↓u_methL, ↓methLD_obj, ↓u_callB1, ↓b1A_two, ↓b1D_ali, ↓b1D_fz, ↓u_methB, ↓outMB_ok, isObj_obj, ↓u_fMinD, ↓minK_lst, ↓u_raise2, ↓r2K_two, ↓u_raise1, ↓r1K_one, ↓u_raise0, ↓u_try, kd_int, gDIn_yes, gDIn_no, varK_sqC, sv_sqV, ↓itL_sq, gList_sq, gLen_sq, gSorted_sq, gNe_nil2, gEq_nil2, gEq_LI0, ↓u_par, setAll_nil, setAll_cons, noAli_nil, noAli_fz, noAli_lst, noAli_dct, noAli_obj, gIsB_bl, ↓u_fdget, ↓u_fdcopy, ↓u_fdput, fldD_2, setFD_2, keyO_int, ↓u_dgetN, ↓dgetNK_dct, ↓u_forO, ↓forOC_lst, ↓u_lc2, ↓u_lk, ↓lkO_dct, ↓lkK_lst, noAli_dz, noAli_dz0, noAli_dz1, noAli_dz2, noAli_dz3, ↓u_itK, ↓itKO_dfz, ↓u_dzGet, ↓dzO_dfz, ↓u_join, ↓joinK_some, ↓u_split, ↓splK_str, ↓u_itS, ↓itSK_str, upto_length, Bool.not_true, Bool.not_false, decide_true, decide_false, Option.bind_some, Option.map_some, List.set_cons_zero, List.set_cons_succ, true_and, and_true, List.map_cons, List.map_nil, decide_eq_true_eq, Bool.and_eq_true, List.length_map, List.length_range, List.length_cons, List.length_nil, Nat.zero_add, Nat.reduceAdd, Nat.reduceLT, Nat.reduceLeDiff, Int.reduceToNat, Int.reduceLT, Int.reduceLE, List.getElem?_cons_zero, List.eraseIdx_cons_zero, List.all_cons, List.all_nil, Bool.and_true, Bool.true_and])
/-! # the law's text -/
theorem app_assoc (a b c : Str) : a ++ b ++ c = a ++ (b ++ c) := TL.ext_tl (by simp only [TL.tl_append, List.append_assoc])
theorem word_sp (N : Nt) (p : Int) : wordP N p ++ " " = if p ∈ N.roots then ("source " : Str) else "place " := by
  unfold wordP
  split <;> rfl
theorem line_join (w : Wr) : ("line " : Str) ++ Txt.join " " [strN w.1, strN w.2.1, strN w.2.2] = lineRow w := by
  rw [TL.join_eq]
  unfold lineRow
  show ("line " : Str) ++ (strN w.1 ++ " " ++ (strN w.2.1 ++ " " ++ strN w.2.2)) = _
  simp only [app_assoc]
@[reducible] def S_Ltext : FSpec := ⟨Nt, none, fun N => [.fz N.t], fun N => N.ok, fun N o => o = .ok (.fz (.str (textN N))) .un⟩
def w_Ltext : WS := (wSeq (wSet 1 (wLst wNil)) (wSeq (wFor (wRg1 (wCons (w1 (fS gLen) (w2 fIx (wVar 0) (wC (.int 0)))) wNil)) (gN 2) (wExpr (wMeth 1 (wCons (w2 fAdd (w2 fIx (wLst (wCons (wC (.str "place ")) (wCons (wC (.str "source ")) wNil))) (w1 (fS gInt) (w2 (fS (gInU false)) (wVar 2) (w2 fIx (wVar 0) (wC (.int 1)))))) (w1 (fS gStr1) (w2 fIx (w2 fIx (wVar 0) (wC (.int 0))) (wVar 2)))) wNil) (mApp 1)))) (wRet (wJoin "\n" (w2 fAdd (wVar 1) (wLc 3 (wItL (w2 fIx (wVar 0) (wC (.int 2)))) wYes (w2 fAdd (wC (.str "line ")) (wJoin " " (wLc 4 (wItL (wVar 3)) wYes (w1 (fS gStr1) (wVar 4)))))))))))
theorem sem_Ltext (N : Nt) (hp : S_Ltext.pre N) : w_Ltext (S_Ltext.args N ++ List.replicate 4 .un) (endK S_Ltext N) := by
  have ho : N.ok := hp
  have n10 : N.n ≤ 10 := ho.n10
  have w10 := ho.w10
  have nn : N.n = N.needs.length := rfl
  have l1 : (Str.ofString " ").length = 1 := by decide +kernel
  have l5 : (Str.ofString "line ").length = 5 := by decide +kernel
  have ln : (Str.ofString "\n").length = 1 := by decide +kernel
  show w_Ltext [.fz N.t, .un, .un, .un, .un] _
  unfold w_Ltext
  refine seq_cut (fun ρ => ρ = [.fz N.t, .lst (([] : List Str).map D.str), .un, .un, .un]) (fun M hM => ?_) ?_
  · walk_at "cl"
    exact hM _ rfl
  rintro _ rfl
  refine seq_cut (fun ρ => ∃ c2, ρ = [.fz N.t, .lst (((upto N.n).map (placeRow N)).map D.str), c2, .un, .un]) (fun M hM => ?_) ?_
  · unfold Nt.t
    walk_at "cl"
    refine ⟨small62_of _ (by omega) (by omega), ?_⟩
    refine forI_intro (fun n ρ => n ≤ N.n ∧ ∃ c2, ρ = [.fz N.t, .lst ((((upto N.n).take n).map (placeRow N)).map D.str), c2, .un, .un]) ⟨Nat.zero_le _, _, rfl⟩ ?_ ?_
    · rintro n x _ hx ⟨hle, c2, rfl⟩
      obtain ⟨hn, rfl⟩ := upto_item hx
      rw [Int.toNat_natCast] at hn
      have hn' : n < N.n := hn
      have tk : (upto N.n).take (n + 1) = (upto N.n).take n ++ [(n : Int)] := by rw [List.take_succ, upto_get hn']; rfl
      obtain ⟨sm, ea⟩ := needP_sm ho (p := (n : Int)) ⟨by omega, by omega⟩
      have sl := strN_len sm
      have wl := word_len N n
      have e1 := word_sp N (n : Int)
      have fin : ∀ z : Str, wordP N (n : Int) ++ " " = z → z.length ≤ 7 ∧ (((upto N.n).take n).map (placeRow N)).map D.str ++ [D.str (z ++ strN (needP N n))] = (((upto N.n).take n ++ [(n : Int)]).map (placeRow N)).map D.str := fun z hz => by
        subst hz
        refine ⟨by rw [len_app, show (" " : Str).length = 1 from l1]; omega, ?_⟩
        rw [List.map_append, List.map_append]
        rfl
      rw [tk]
      unfold Nt.t
      walk_at "cl"
      have cs : ∃ z : Str, (z = "source " ∨ z = "place ") ∧ wordP N (n : Int) ++ " " = z ∧ atI [D.str (Str.ofString "place "), D.str (Str.ofString "source ")] (if (n : Int) ∈ N.roots then 1 else 0) = some (.str z) := by
        by_cases g : (n : Int) ∈ N.roots
        · exact ⟨_, .inl rfl, by rw [e1, if_pos g], by rw [if_pos g]; rfl⟩
        · exact ⟨_, .inr rfl, by rw [e1, if_neg g], by rw [if_neg g]; rfl⟩
      obtain ⟨z, _, hz, az⟩ := cs
      obtain ⟨z1, z2⟩ := fin z hz
      rw [az]
      walk_at "cl"
      rw [ea]
      walk_at "cl"
      rw [gStr1_ok sm]
      walk_at "cl"
      rw [← z2]
      exact ⟨Nat.le_of_lt (lt_line (by omega)), lt_line (by rw [List.length_take]; omega), lt_line (by rw [List.length_take]; omega), hn', _, rfl⟩
    · rintro _ ⟨_, c2, rfl⟩
      have e : ((upto N.n).take ((upto (N.needs.length : Int).toNat).map D.int).length) = upto N.n := List.take_of_length_le (by rw [List.length_map, upto_length, upto_length]; simp)
      rw [e]
      exact hM _ ⟨_, rfl⟩
  rintro _ ⟨c2, rfl⟩
  unfold Nt.t
  walk_at "cl"
  have bw : ∀ w ∈ N.wires, Sm w.1 ∧ Sm w.2.1 ∧ Sm w.2.2 := fun w hw => by
    have b := ho.wr w hw
    exact ⟨⟨b.1.1, by omega⟩, ⟨b.2.1.1, by omega⟩, b.2.2.2⟩
  refine lcI_encX encW (fun _ => true) (fun w => .str (lineRow w)) rfl (by omega) ?_ ?_ ?_
  · intro w hw KT hK
    walk_at "cl"
    exact hK
  · intro w hw _ KD hK
    obtain ⟨b1, b2, b3⟩ := bw w hw
    unfold encW at hK ⊢
    walk_at "cl"
    rw [show ([D.int w.1, D.int w.2.1, D.int w.2.2] : List D) = [w.1, w.2.1, w.2.2].map D.int from rfl]
    refine lcI_ints (fun _ => true) (fun x => .str (strN x)) rfl (by simp) ?_ ?_ ?_
    · intro x hx KT hK
      walk_at "cl"
      exact hK
    · intro x hx _ KD hK
      have sx : Sm x := by
        rcases List.mem_cons.mp hx with rfl | hx
        · exact b1
        rcases List.mem_cons.mp hx with rfl | hx
        · exact b2
        rcases List.mem_cons.mp hx with rfl | hx
        · exact b3
        cases hx
      walk_at "cl"
      rw [gStr1_ok sx]
      walk_at "cl"
      exact hK
    · have e : (([w.1, w.2.1, w.2.2].filter fun _ => true).map fun x => D.str (strN x)) = [strN w.1, strN w.2.1, strN w.2.2].map D.str := rfl
      rw [e]
      have q1 := strN_len b1
      have q2 := strN_len b2
      have q3 := strN_len b3
      walk_at "cl"
      have jl := line_join w
      have jn := lineRow_len b1 b2 b3
      have sb : (([strN w.1, strN w.2.1, strN w.2.2].map (·.length)).sum + [strN w.1, strN w.2.1, strN w.2.2].length * (" " : Str).length) ≤ 16777216 := by
        have l1' : (" " : Str).length = 1 := l1
        simp only [List.map_cons, List.map_nil, List.sum_cons, List.sum_nil, List.length_cons, List.length_nil, l1']
        omega
      have jd := joinD_ok " " sb
      simp only [List.map_cons, List.map_nil] at jd
      rw [jd]
      generalize Txt.join " " [strN w.1, strN w.2.1, strN w.2.2] = z at jl
      have zl : ("line " : Str).length + z.length ≤ 28 := by rw [← len_app, jl]; exact jn
      walk_at "cl"
      refine ⟨Nat.le_of_lt (lt_line (by rw [show (Str.ofString "line ").length = ("line " : Str).length from rfl]; omega)), ?_⟩
      rw [show Str.ofString "line " ++ z = lineRow w from jl]
      exact hK
  · have e : ((N.wires.filter fun _ => true).map fun w => D.str (lineRow w)) = (N.wires.map lineRow).map D.str := by
      rw [List.filter_eq_self.mpr fun _ _ => rfl, List.map_map]
      rfl
    rw [e]
    have rl : (rowsN N).length ≤ 20 := by
      unfold rowsN
      rw [List.length_append, List.length_map, List.length_map, upto_length]
      omega
    have sl := sum_len 28 (rowsN N) (rows_len ho)
    have e2 : (((upto N.n).map (placeRow N)).map D.str ++ (N.wires.map lineRow).map D.str) = (rowsN N).map D.str := by
      unfold rowsN
      rw [List.map_append]
    walk_at "cl"
    rw [e2]
    refine ⟨Nat.le_of_lt (lt_line (by omega)), ?_⟩
    have ln' : ("\n" : Str).length = 1 := ln
    rw [joinD_ok "\n" (by rw [ln']; omega)]
    rfl
end CL

namespace CL
open PySem L2
local macro_rules | `(tactic| walk_at "cl") => `(tactic| simp -dsimp only [br_true, br_false, ↓u_seq, ↓u_skip, ↓u_expr, ↓u_if, ↓u_ret, ↓retK_fz, ↓retK_lst, ↓retK_dct, ↓retK_obj, ↓retK_lsc, ↓retK_ali, ↓u_set, ↓rest_fz, ↓rest_lst, ↓rest_dct, ↓rest_obj, ↓rest_lsc, ↓rest_ali, ↓toD_fz, ↓toD_lst, ↓toD_dct, ↓toD_obj, ↓toD_lsc, ↓toD_ali, ↓toDs_nil, ↓toDs_cons, frz_fz, frz_lst, frz_dct, ↓u_var, varK_fz, varK_lst, varK_dct, varK_obj, varK_lsc, ↓u_C, ↓u_nil, ↓u_cons, ↓u_F, ↓u_fS, ↓u_fL, opt_some, opt_if, svs_nil, svs_cons, sv_fz, sv_lst, sv_dct, sv_ali, svO_lst, svO_fz, svO_dct, get0, getS, ↓u_B, ↓u_and, ↓u_or, ↓u_not, ↓u_yes, ↓u_andV, ↓u_orV, ↓u_notV, ↓u_ifE, ↓u_chain, ↓u_tup, ↓u_lst, ↓u_lsc, ↓u_dict0, ↓u_fAdd, ↓add_int, ↓add_str, ↓add_lst, ↓add_tup, ↓u_fMul, ↓mul_int, ↓mul_lst, ↓u_fIx, ↓ix_lst, ↓ix_tup, ↓ix_scr, ↓ix_str, ↓u_fTuple, ↓tup_lst, ↓tup_tup, ↓u_fDGet, ↓dget_dct, ↓u_sl, ↓sl_lst, ↓sl_tup, ↓sl_str, ↓u_no, ↓u_so, ↓u_lput, ↓lputK_int, lputO_lst, ↓u_dput, ↓dputC_fz, dputO_dct, ownL_isL, ownD_isDc, live_isLv, isL_lst, isDc_dct, isLv_lst, isLv_fz, isLv_obj, isLv_dct, isLv_lsc, ↓u_meth, methO_lst, ↓u_app, appO_lst, ↓u_pop, ↓u_popAt, ↓u_clear, ↓u_asg, ↓u_gN, ↓u_gTu, ↓u_gsN, ↓u_gsC, ↓fldV_fz, fldO_obj, ↓fldK_fz, ↓fldK_ali, ↓u_fld, ↓u_callV, ↓outV_ok, ↓outV_ex, ↓u_callB, ↓outB_ok, ↓outB_ex, ↓outM_ok, ↓u_methV, ↓methD_obj, ↓outI_ok, ↓u_make, ↓u_fset, fset_0, fset_1, fset_2, fset_3, fset_4, fset_5, xc_endK, rt_endK, nx_endK, ↓u_for, ↓u_while, ↓u_lc, ↓u_itL, ↓itL_lst, ↓itL_tup, ↓itL_scr, ↓u_itU, ↓itU_tup, ↓u_rg1, ↓u_rg2, ↓u_lrg1, ↓u_lrg2, atI_0, atI_1, atI_2, atI_3, gSub_int, gDiv_int, gMod_int, gPow_18, gPow_6, gLt_int, gLe_int, gGt_int, gGe_int, gMax_int, gMin_int, gNeg_int, gInt_int, gInt_bl, gLen_lst, gLen_tup, gLen_scr, gLen_dct, gLen_str, gList_lst, gList_tup, gRev_lst, gSorted_li, gSorted_ti, gSum_li, gIsN_non, gIsN_int, gNotN_non, gNotN_int, gEq_int, gNe_int, gEq_LI, gNe_LI, gNe_LI0, gIn_int, gNotIn_int, ↓ixN_c0, ↓ixN_c1, ↓ixN_c2, ↓ixN_c3, frz_net, fget_needs, fget_roots, fget_wires, fget_net1, fget_kept, fget_used, fget_net2, fget_begin, fget_dark, fget_first, fget_far, fget_by, fget_net3, fget_state, fget_told, rangeD_upto, gIs_non, isB_int_non, isB_bool_non, isB_str_non, isB_list_non, isB_tuple_non, isB_dict_non, gIs_bl, isB_int_bl, isB_bool_bl, isB_str_bl, isB_list_bl, isB_tuple_bl, isB_dict_bl, gIs_int, isB_int_int, isB_bool_int, isB_str_int, isB_list_int, isB_tuple_int, isB_dict_int, gIs_str, isB_int_str, isB_bool_str, isB_str_str, isB_list_str, isB_tuple_str, isB_dict_str, gIs_tup, isB_int_tup, isB_bool_tup, isB_str_tup, isB_list_tup, isB_tuple_tup, isB_dict_tup, gIs_lst, isB_int_lst, isB_bool_lst, isB_str_lst, isB_list_lst, isB_tuple_lst, isB_dict_lst, gIs_dct, isB_int_dct, isB_bool_dct, isB_str_dct, isB_list_dct, isB_tuple_dct, isB_dict_dct, gNe_tt, gNe_ff, gNe_tf, gNe_ft, gEq_tt, gEq_ff, gIsN_lst, gNotN_lst, gIsN_tup, gNotN_tup, gIsN_str, gNotN_str, gIsN_bl, gNotN_bl, gIsN_dct, gNotN_dct, ↓rest_Dc, isLv_Dc, ↓u_callL, ↓outL_ok, ↓outL_ex, ↓outML_ok, ↓u_methL, ↓methLD_obj, ↓u_callB1, ↓b1A_two, ↓b1D_ali, ↓b1D_fz, ↓u_methB, ↓outMB_ok, isObj_obj, ↓u_fMinD, ↓minK_lst, ↓u_raise2, ↓r2K_two, ↓u_raise1, ↓r1K_one, ↓u_raise0, ↓u_try, kd_int, gDIn_yes, gDIn_no, varK_sqC, sv_sqV, ↓itL_sq, gList_sq, gLen_sq, gSorted_sq, gNe_nil2, gEq_nil2, gEq_LI0, ↓u_par, setAll_nil, setAll_cons, noAli_nil, noAli_fz, noAli_lst, noAli_dct, noAli_obj, gIsB_bl, ↓u_fdget, ↓u_fdcopy, ↓u_fdput, fldD_2, setFD_2, keyO_int, ↓u_dgetN, ↓dgetNK_dct, ↓u_forO, ↓forOC_lst, ↓u_lc2, ↓u_lk, ↓lkO_dct, ↓lkK_lst, noAli_dz, noAli_dz0, noAli_dz1, noAli_dz2, noAli_dz3, ↓u_itK, ↓itKO_dfz, ↓u_dzGet, ↓dzO_dfz, ↓u_join, ↓joinK_some, ↓u_split, ↓splK_str, ↓u_itS, ↓itSK_str, upto_length, Bool.not_true, Bool.not_false, decide_true, decide_false, Option.bind_some, Option.map_some, List.set_cons_zero, List.set_cons_succ, true_and, and_true, List.map_cons, List.map_nil, decide_eq_true_eq, Bool.and_eq_true, List.length_map, List.length_range, List.length_cons, List.length_nil, Nat.zero_add, Nat.reduceAdd, Nat.reduceLT, Nat.reduceLeDiff, Int.reduceToNat, Int.reduceLT, Int.reduceLE, List.getElem?_cons_zero, List.eraseIdx_cons_zero, List.all_cons, List.all_nil, Bool.and_true, Bool.true_and])
/-! # number_of -/
theorem numL_head : ∀ (k n : Nat), n ≤ k → ∀ r, TL.numL n = 48 :: r → n = 0
  | 0, n, h, _, _ => by omega
  | k + 1, n, h, r, e => by
    by_cases c : n < 10
    · rw [TL.numL_lt c] at e
      have := (List.cons.inj e).1
      omega
    · rw [TL.numL_step (by omega)] at e
      cases z : TL.numL (n / 10) with
      | nil => exact absurd z (TL.numL_ne _)
      | cons a t =>
        rw [z] at e
        have ea : a = 48 := (List.cons.inj e).1
        subst ea
        have := numL_head k (n / 10) (by omega) t z
        omega
theorem strN_ne {i : Int} (h : 0 ≤ i) : strN i ≠ "" := fun e => by
  have := congrArg TL.tl e
  rw [strN_num h] at this
  exact TL.numL_ne _ this
theorem strN_lay {i : Int} (h : 0 ≤ i) : PyData.canLay0 (.str (strN i)) = true := by
  show (strN i).cps.all (· < 0x110000) = true
  rw [← Array.all_toList, List.all_eq_true]
  intro c hc
  have hc' : c ∈ TL.tl (strN i) := hc
  rw [strN_num h] at hc'
  have := TL.numL_digits i.toNat c hc'
  exact decide_eq_true (by omega)
theorem gIntS_ok {i : Int} (h : Sm i) : gIntS [.str (strN i)] = some (.int i) := by
  have l := strN_len h
  obtain ⟨n, rfl⟩ := Int.eq_ofNat_of_zero_le h.1
  show (if _ then _ else _) = _
  rw [if_pos (by omega)]
  have := TL.int_num (n := n) (by have := TL.numL_len (n := n) (k := 7) (by decide) (by have := h.2; omega); omega)
  show (PySem.intText? (Str.ofString (toString ((n : Nat) : Int)))).map D.int = _
  rw [this]
  rfl
end CL

namespace CL
open PySem L2
local macro_rules | `(tactic| walk_at "cl") => `(tactic| simp -dsimp only [br_true, br_false, ↓u_seq, ↓u_skip, ↓u_expr, ↓u_if, ↓u_ret, ↓retK_fz, ↓retK_lst, ↓retK_dct, ↓retK_obj, ↓retK_lsc, ↓retK_ali, ↓u_set, ↓rest_fz, ↓rest_lst, ↓rest_dct, ↓rest_obj, ↓rest_lsc, ↓rest_ali, ↓toD_fz, ↓toD_lst, ↓toD_dct, ↓toD_obj, ↓toD_lsc, ↓toD_ali, ↓toDs_nil, ↓toDs_cons, frz_fz, frz_lst, frz_dct, ↓u_var, varK_fz, varK_lst, varK_dct, varK_obj, varK_lsc, ↓u_C, ↓u_nil, ↓u_cons, ↓u_F, ↓u_fS, ↓u_fL, opt_some, opt_if, svs_nil, svs_cons, sv_fz, sv_lst, sv_dct, sv_ali, svO_lst, svO_fz, svO_dct, get0, getS, ↓u_B, ↓u_and, ↓u_or, ↓u_not, ↓u_yes, ↓u_andV, ↓u_orV, ↓u_notV, ↓u_ifE, ↓u_chain, ↓u_tup, ↓u_lst, ↓u_lsc, ↓u_dict0, ↓u_fAdd, ↓add_int, ↓add_str, ↓add_lst, ↓add_tup, ↓u_fMul, ↓mul_int, ↓mul_lst, ↓u_fIx, ↓ix_lst, ↓ix_tup, ↓ix_scr, ↓ix_str, ↓u_fTuple, ↓tup_lst, ↓tup_tup, ↓u_fDGet, ↓dget_dct, ↓u_sl, ↓sl_lst, ↓sl_tup, ↓sl_str, ↓u_no, ↓u_so, ↓u_lput, ↓lputK_int, lputO_lst, ↓u_dput, ↓dputC_fz, dputO_dct, ownL_isL, ownD_isDc, live_isLv, isL_lst, isDc_dct, isLv_lst, isLv_fz, isLv_obj, isLv_dct, isLv_lsc, ↓u_meth, methO_lst, ↓u_app, appO_lst, ↓u_pop, ↓u_popAt, ↓u_clear, ↓u_asg, ↓u_gN, ↓u_gTu, ↓u_gsN, ↓u_gsC, ↓fldV_fz, fldO_obj, ↓fldK_fz, ↓fldK_ali, ↓u_fld, ↓u_callV, ↓outV_ok, ↓outV_ex, ↓u_callB, ↓outB_ok, ↓outB_ex, ↓outM_ok, ↓u_methV, ↓methD_obj, ↓outI_ok, ↓u_make, ↓u_fset, fset_0, fset_1, fset_2, fset_3, fset_4, fset_5, xc_endK, rt_endK, nx_endK, ↓u_for, ↓u_while, ↓u_lc, ↓u_itL, ↓itL_lst, ↓itL_tup, ↓itL_scr, ↓u_itU, ↓itU_tup, ↓u_rg1, ↓u_rg2, ↓u_lrg1, ↓u_lrg2, atI_0, atI_1, atI_2, atI_3, gSub_int, gDiv_int, gMod_int, gPow_18, gPow_6, gLt_int, gLe_int, gGt_int, gGe_int, gMax_int, gMin_int, gNeg_int, gInt_int, gInt_bl, gLen_lst, gLen_tup, gLen_scr, gLen_dct, gLen_str, gList_lst, gList_tup, gRev_lst, gSorted_li, gSorted_ti, gSum_li, gIsN_non, gIsN_int, gNotN_non, gNotN_int, gEq_int, gNe_int, gEq_LI, gNe_LI, gNe_LI0, gIn_int, gNotIn_int, ↓ixN_c0, ↓ixN_c1, ↓ixN_c2, ↓ixN_c3, frz_net, fget_needs, fget_roots, fget_wires, fget_net1, fget_kept, fget_used, fget_net2, fget_begin, fget_dark, fget_first, fget_far, fget_by, fget_net3, fget_state, fget_told, rangeD_upto, gIs_non, isB_int_non, isB_bool_non, isB_str_non, isB_list_non, isB_tuple_non, isB_dict_non, gIs_bl, isB_int_bl, isB_bool_bl, isB_str_bl, isB_list_bl, isB_tuple_bl, isB_dict_bl, gIs_int, isB_int_int, isB_bool_int, isB_str_int, isB_list_int, isB_tuple_int, isB_dict_int, gIs_str, isB_int_str, isB_bool_str, isB_str_str, isB_list_str, isB_tuple_str, isB_dict_str, gIs_tup, isB_int_tup, isB_bool_tup, isB_str_tup, isB_list_tup, isB_tuple_tup, isB_dict_tup, gIs_lst, isB_int_lst, isB_bool_lst, isB_str_lst, isB_list_lst, isB_tuple_lst, isB_dict_lst, gIs_dct, isB_int_dct, isB_bool_dct, isB_str_dct, isB_list_dct, isB_tuple_dct, isB_dict_dct, gNe_tt, gNe_ff, gNe_tf, gNe_ft, gEq_tt, gEq_ff, gIsN_lst, gNotN_lst, gIsN_tup, gNotN_tup, gIsN_str, gNotN_str, gIsN_bl, gNotN_bl, gIsN_dct, gNotN_dct, ↓rest_Dc, isLv_Dc, ↓u_callL, ↓outL_ok, ↓outL_ex, ↓outML_ok, ↓u_methL, ↓methLD_obj, ↓u_callB1, ↓b1A_two, ↓b1D_ali, ↓b1D_fz, ↓u_methB, ↓outMB_ok, isObj_obj, ↓u_fMinD, ↓minK_lst, ↓u_raise2, ↓r2K_two, ↓u_raise1, ↓r1K_one, ↓u_raise0, ↓u_try, kd_int, gDIn_yes, gDIn_no, varK_sqC, sv_sqV, ↓itL_sq, gList_sq, gLen_sq, gSorted_sq, gNe_nil2, gEq_nil2, gEq_LI0, ↓u_par, setAll_nil, setAll_cons, noAli_nil, noAli_fz, noAli_lst, noAli_dct, noAli_obj, gIsB_bl, ↓u_fdget, ↓u_fdcopy, ↓u_fdput, fldD_2, setFD_2, keyO_int, ↓u_dgetN, ↓dgetNK_dct, ↓u_forO, ↓forOC_lst, ↓u_lc2, ↓u_lk, ↓lkO_dct, ↓lkK_lst, noAli_dz, noAli_dz0, noAli_dz1, noAli_dz2, noAli_dz3, ↓u_itK, ↓itKO_dfz, ↓u_dzGet, ↓dzO_dfz, ↓u_join, ↓joinK_some, ↓u_split, ↓splK_str, ↓u_itS, ↓itSK_str, upto_length, Bool.not_true, Bool.not_false, decide_true, decide_false, Option.bind_some, Option.map_some, List.set_cons_zero, List.set_cons_succ, true_and, and_true, List.map_cons, List.map_nil, decide_eq_true_eq, Bool.and_eq_true, List.length_map, List.length_range, List.length_cons, List.length_nil, Nat.zero_add, Nat.reduceAdd, Nat.reduceLT, Nat.reduceLeDiff, Int.reduceToNat, Int.reduceLT, Int.reduceLE, List.getElem?_cons_zero, List.eraseIdx_cons_zero, List.all_cons, List.all_nil, Bool.and_true, Bool.true_and])
/-! # number_of, walked -/
theorem eqD_strX (a b : Str) : eqD (.str a) (.str b) = decide (a = b) := by
  unfold eqD pd PyData.eqv
  by_cases h : a = b <;> simp [h]
theorem gEq_strX {a b : Str} (ha : PyData.canLay0 (.str a) = true) (hb : PyData.canLay0 (.str b) = true) : gEq [.str a, .str b] = some (.bl (decide (a = b))) := by
  have h : (lay (.str a) 60 && lay (.str b) 60) = true := by simp [lay, ha, hb]
  show (if (lay (.str a) 60 && lay (.str b) 60) = true then some (D.bl (eqD (.str a) (.str b))) else none) = _
  rw [if_pos h, eqD_strX]
theorem gNe_strX {a b : Str} (ha : PyData.canLay0 (.str a) = true) (hb : PyData.canLay0 (.str b) = true) : gNe [.str a, .str b] = some (.bl (decide (a ≠ b))) := by
  have h : (lay (.str a) 60 && lay (.str b) 60) = true := by simp [lay, ha, hb]
  show (if (lay (.str a) 60 && lay (.str b) 60) = true then some (D.bl (!eqD (.str a) (.str b))) else none) = _
  rw [if_pos h, eqD_strX]
  simp
@[reducible] def S_number_of : FSpec := ⟨Int × Int, none, fun a => [.fz (.str (strN a.1)), .fz (.int a.2)], fun a => Sm a.1, fun a o => o = .ok (.fz (.int a.1)) .un⟩
def w_number_of : WS := (wSeq (wIf (wOr (wB (w2 (fS gEq) (wVar 0) (wC (.str "")))) (wOr (wB (w2 (fS gGt) (w1 (fS gLen) (wVar 0)) (wC (.int 7)))) (wAnd (wB (w2 (fS gEq) (w2 fIx (wVar 0) (wC (.int 0))) (wC (.str "0")))) (wB (w2 (fS gNe) (wVar 0) (wC (.str "0"))))))) wNever wSkip) (wSeq (wFor (wItS (wVar 0)) (gN 2) (wIf (wB (w2 (fS gNoSign) (wVar 2) (wC (.str "0123456789")))) wNever wSkip)) (wRet (w1 (fS gIntS) (wVar 0)))))
theorem sem_number_of (a : Int × Int) (hp : S_number_of.pre a) : w_number_of (S_number_of.args a ++ List.replicate 1 .un) (endK S_number_of a) := by
  obtain ⟨i, r⟩ := a
  have h : Sm i := hp
  have l := strN_len h
  have ty := strN_lay h.1
  have ne := strN_ne h.1
  have te := strN_num h.1
  have dg := TL.numL_digits i.toNat
  have e0 : PyData.canLay0 (.str "") = true := by decide +kernel
  have e1 : PyData.canLay0 (.str "0") = true := by decide +kernel
  show w_number_of [.fz (.str (strN i)), .fz (.int r), .un] _
  unfold w_number_of
  refine seq_cut (fun ρ => ρ = [.fz (.str (strN i)), .fz (.int r), .un]) (fun M hM => ?_) ?_
  · walk_at "cl"
    rw [show Str.ofString "" = ("" : Str) from rfl, gEq_strX ty e0]
    walk_at "cl"
    refine br_f (decide_eq_false ne) ?_
    walk_at "cl"
    refine ⟨Nat.le_of_lt (lt_line (by omega)), ?_⟩
    refine br_f (decide_eq_false (by omega)) ?_
    walk_at "cl"
    obtain ⟨c, t, ec⟩ := List.exists_cons_of_ne_nil (TL.numL_ne i.toNat)
    have ecs : (strN i).cps.toList = c :: t := by rw [← ec]; exact te
    rw [ecs]
    walk_at "cl"
    have cd := dg c (by rw [ec]; exact List.mem_cons_self)
    have lc : PyData.canLay0 (.str ⟨#[c]⟩) = true := by
      show (⟨#[c]⟩ : Str).cps.all (· < 0x110000) = true
      rw [← Array.all_toList, List.all_eq_true]
      intro x hx
      have : x = c := by simpa using hx
      exact decide_eq_true (by omega)
    refine ⟨Nat.le_of_lt (lt_line (by omega)), ?_⟩
    rw [show Str.ofString "0" = ("0" : Str) from rfl, gEq_strX lc e1]
    walk_at "cl"
    refine br_intro (fun g => ?_) (fun g => ?_)
    · have g' := of_decide_eq_true g
      have hc : c = 48 := by
        have := congrArg (fun z : Str => z.cps.toList) g'
        have e : ("0" : Str).cps.toList = [48] := by decide +kernel
        simp only [e] at this
        simpa using this
      subst hc
      have z := numL_head _ _ (Nat.le_refl _) _ ec
      have i0 : i = 0 := by have := h.1; omega
      subst i0
      walk_at "cl"
      rw [show Str.ofString "0" = ("0" : Str) from rfl, gNe_strX ty e1]
      walk_at "cl"
      refine br_f (by decide +kernel) ?_
      walk_at "cl"
      exact hM _ rfl
    · exact hM _ rfl
  rintro _ rfl
  refine seq_cut (fun ρ => ∃ c2, ρ = [.fz (.str (strN i)), .fz (.int r), c2]) (fun M hM => ?_) ?_
  · walk_at "cl"
    refine forI_intro (fun n ρ => ∃ c2, ρ = [.fz (.str (strN i)), .fz (.int r), c2]) ⟨_, rfl⟩ ?_ ?_
    · rintro n d _ hd ⟨c2, rfl⟩
      obtain ⟨c, hc, rfl⟩ : ∃ c ∈ TL.tl (strN i), D.str ⟨#[c]⟩ = d := by
        unfold signsD at hd
        rw [List.getElem?_map] at hd
        cases q : (strN i).cps.toList[n]? with
        | none => rw [q] at hd; cases hd
        | some c => rw [q] at hd; exact ⟨c, List.mem_of_getElem? q, Option.some.inj hd⟩
      rw [te] at hc
      have cd := dg c hc
      have gs : gNoSign [.str ⟨#[c]⟩, .str (Str.ofString "0123456789")] = some (.bl false) := by
        have : c = 48 ∨ c = 49 ∨ c = 50 ∨ c = 51 ∨ c = 52 ∨ c = 53 ∨ c = 54 ∨ c = 55 ∨ c = 56 ∨ c = 57 := by omega
        rcases this with rfl | rfl | rfl | rfl | rfl | rfl | rfl | rfl | rfl | rfl <;> rfl
      walk_at "cl"
      rw [gs]
      walk_at "cl"
      exact ⟨_, rfl⟩
    · rintro _ ⟨c2, rfl⟩
      exact hM _ ⟨_, rfl⟩
  rintro _ ⟨c2, rfl⟩
  walk_at "cl"
  rw [gIntS_ok h]
  walk_at "cl"
  rfl
end CL

namespace CL
open PySem L2
local macro_rules | `(tactic| walk_at "cl") => `(tactic| simp -dsimp only [br_true, br_false, ↓u_seq, ↓u_skip, ↓u_expr, ↓u_if, ↓u_ret, ↓retK_fz, ↓retK_lst, ↓retK_dct, ↓retK_obj, ↓retK_lsc, ↓retK_ali, ↓u_set, ↓rest_fz, ↓rest_lst, ↓rest_dct, ↓rest_obj, ↓rest_lsc, ↓rest_ali, ↓toD_fz, ↓toD_lst, ↓toD_dct, ↓toD_obj, ↓toD_lsc, ↓toD_ali, ↓toDs_nil, ↓toDs_cons, frz_fz, frz_lst, frz_dct, ↓u_var, varK_fz, varK_lst, varK_dct, varK_obj, varK_lsc, ↓u_C, ↓u_nil, ↓u_cons, ↓u_F, ↓u_fS, ↓u_fL, opt_some, opt_if, svs_nil, svs_cons, sv_fz, sv_lst, sv_dct, sv_ali, svO_lst, svO_fz, svO_dct, get0, getS, ↓u_B, ↓u_and, ↓u_or, ↓u_not, ↓u_yes, ↓u_andV, ↓u_orV, ↓u_notV, ↓u_ifE, ↓u_chain, ↓u_tup, ↓u_lst, ↓u_lsc, ↓u_dict0, ↓u_fAdd, ↓add_int, ↓add_str, ↓add_lst, ↓add_tup, ↓u_fMul, ↓mul_int, ↓mul_lst, ↓u_fIx, ↓ix_lst, ↓ix_tup, ↓ix_scr, ↓ix_str, ↓u_fTuple, ↓tup_lst, ↓tup_tup, ↓u_fDGet, ↓dget_dct, ↓u_sl, ↓sl_lst, ↓sl_tup, ↓sl_str, ↓u_no, ↓u_so, ↓u_lput, ↓lputK_int, lputO_lst, ↓u_dput, ↓dputC_fz, dputO_dct, ownL_isL, ownD_isDc, live_isLv, isL_lst, isDc_dct, isLv_lst, isLv_fz, isLv_obj, isLv_dct, isLv_lsc, ↓u_meth, methO_lst, ↓u_app, appO_lst, ↓u_pop, ↓u_popAt, ↓u_clear, ↓u_asg, ↓u_gN, ↓u_gTu, ↓u_gsN, ↓u_gsC, ↓fldV_fz, fldO_obj, ↓fldK_fz, ↓fldK_ali, ↓u_fld, ↓u_callV, ↓outV_ok, ↓outV_ex, ↓u_callB, ↓outB_ok, ↓outB_ex, ↓outM_ok, ↓u_methV, ↓methD_obj, ↓outI_ok, ↓u_make, ↓u_fset, fset_0, fset_1, fset_2, fset_3, fset_4, fset_5, xc_endK, rt_endK, nx_endK, ↓u_for, ↓u_while, ↓u_lc, ↓u_itL, ↓itL_lst, ↓itL_tup, ↓itL_scr, ↓u_itU, ↓itU_tup, ↓u_rg1, ↓u_rg2, ↓u_lrg1, ↓u_lrg2, atI_0, atI_1, atI_2, atI_3, gSub_int, gDiv_int, gMod_int, gPow_18, gPow_6, gLt_int, gLe_int, gGt_int, gGe_int, gMax_int, gMin_int, gNeg_int, gInt_int, gInt_bl, gLen_lst, gLen_tup, gLen_scr, gLen_dct, gLen_str, gList_lst, gList_tup, gRev_lst, gSorted_li, gSorted_ti, gSum_li, gIsN_non, gIsN_int, gNotN_non, gNotN_int, gEq_int, gNe_int, gEq_LI, gNe_LI, gNe_LI0, gIn_int, gNotIn_int, ↓ixN_c0, ↓ixN_c1, ↓ixN_c2, ↓ixN_c3, frz_net, fget_needs, fget_roots, fget_wires, fget_net1, fget_kept, fget_used, fget_net2, fget_begin, fget_dark, fget_first, fget_far, fget_by, fget_net3, fget_state, fget_told, rangeD_upto, gIs_non, isB_int_non, isB_bool_non, isB_str_non, isB_list_non, isB_tuple_non, isB_dict_non, gIs_bl, isB_int_bl, isB_bool_bl, isB_str_bl, isB_list_bl, isB_tuple_bl, isB_dict_bl, gIs_int, isB_int_int, isB_bool_int, isB_str_int, isB_list_int, isB_tuple_int, isB_dict_int, gIs_str, isB_int_str, isB_bool_str, isB_str_str, isB_list_str, isB_tuple_str, isB_dict_str, gIs_tup, isB_int_tup, isB_bool_tup, isB_str_tup, isB_list_tup, isB_tuple_tup, isB_dict_tup, gIs_lst, isB_int_lst, isB_bool_lst, isB_str_lst, isB_list_lst, isB_tuple_lst, isB_dict_lst, gIs_dct, isB_int_dct, isB_bool_dct, isB_str_dct, isB_list_dct, isB_tuple_dct, isB_dict_dct, gNe_tt, gNe_ff, gNe_tf, gNe_ft, gEq_tt, gEq_ff, gIsN_lst, gNotN_lst, gIsN_tup, gNotN_tup, gIsN_str, gNotN_str, gIsN_bl, gNotN_bl, gIsN_dct, gNotN_dct, ↓rest_Dc, isLv_Dc, ↓u_callL, ↓outL_ok, ↓outL_ex, ↓outML_ok, ↓u_methL, ↓methLD_obj, ↓u_callB1, ↓b1A_two, ↓b1D_ali, ↓b1D_fz, ↓u_methB, ↓outMB_ok, isObj_obj, ↓u_fMinD, ↓minK_lst, ↓u_raise2, ↓r2K_two, ↓u_raise1, ↓r1K_one, ↓u_raise0, ↓u_try, kd_int, gDIn_yes, gDIn_no, varK_sqC, sv_sqV, ↓itL_sq, gList_sq, gLen_sq, gSorted_sq, gNe_nil2, gEq_nil2, gEq_LI0, ↓u_par, setAll_nil, setAll_cons, noAli_nil, noAli_fz, noAli_lst, noAli_dct, noAli_obj, gIsB_bl, ↓u_fdget, ↓u_fdcopy, ↓u_fdput, fldD_2, setFD_2, keyO_int, ↓u_dgetN, ↓dgetNK_dct, ↓u_forO, ↓forOC_lst, ↓u_lc2, ↓u_lk, ↓lkO_dct, ↓lkK_lst, noAli_dz, noAli_dz0, noAli_dz1, noAli_dz2, noAli_dz3, ↓u_itK, ↓itKO_dfz, ↓u_dzGet, ↓dzO_dfz, ↓u_join, ↓joinK_some, ↓u_split, ↓splK_str, ↓u_itS, ↓itSK_str, upto_length, Bool.not_true, Bool.not_false, decide_true, decide_false, Option.bind_some, Option.map_some, List.set_cons_zero, List.set_cons_succ, true_and, and_true, List.map_cons, List.map_nil, decide_eq_true_eq, Bool.and_eq_true, List.length_map, List.length_range, List.length_cons, List.length_nil, Nat.zero_add, Nat.reduceAdd, Nat.reduceLT, Nat.reduceLeDiff, Int.reduceToNat, Int.reduceLT, Int.reduceLE, List.getElem?_cons_zero, List.eraseIdx_cons_zero, List.all_cons, List.all_nil, Bool.and_true, Bool.true_and])
/-! # a text, read back -/
theorem strN_free {i : Int} (h : 0 ≤ i) {s : Nat} (hs : s < 48 ∨ 57 < s) : s ∉ TL.tl (strN i) := by
  rw [strN_num h]
  exact TL.numL_free hs
theorem tl_sp : TL.tl (" " : Str) = [32] := by decide +kernel
theorem tl_nl : TL.tl ("\n" : Str) = [10] := by decide +kernel
theorem word_free (N : Nt) (p : Int) : 32 ∉ TL.tl (wordP N p) ∧ 10 ∉ TL.tl (wordP N p) := by
  unfold wordP
  split <;> decide +kernel
theorem placeRow_join (N : Nt) (p : Int) : placeRow N p = Txt.join " " [wordP N p, strN (needP N p)] := by
  rw [TL.join_eq]
  rfl
theorem lineRow_join (w : Wr) : lineRow w = Txt.join " " [("line" : Str), strN w.1, strN w.2.1, strN w.2.2] := by
  rw [TL.join_eq]
  show _ = ("line" : Str) ++ " " ++ (strN w.1 ++ " " ++ (strN w.2.1 ++ " " ++ strN w.2.2))
  have e : ("line" : Str) ++ " " = "line " := rfl
  rw [e]
  unfold lineRow
  simp only [app_assoc]
theorem placeRow_split {N : Nt} {p : Int} (h : Sm (needP N p)) : Txt.split (placeRow N p) " " = [wordP N p, strN (needP N p)] := by
  rw [placeRow_join]
  refine TL.split_join tl_sp (by decide +kernel) (by simp) fun q hq => ?_
  rcases List.mem_cons.mp hq with rfl | hq
  · exact (word_free N p).1
  · rcases List.mem_cons.mp hq with rfl | hq
    · exact strN_free h.1 (by omega)
    · cases hq
theorem lineRow_split {w : Wr} (h1 : Sm w.1) (h2 : Sm w.2.1) (h3 : Sm w.2.2) : Txt.split (lineRow w) " " = [("line" : Str), strN w.1, strN w.2.1, strN w.2.2] := by
  rw [lineRow_join]
  refine TL.split_join tl_sp (by decide +kernel) (by simp) fun q hq => ?_
  rcases List.mem_cons.mp hq with rfl | hq
  · decide +kernel
  rcases List.mem_cons.mp hq with rfl | hq
  · exact strN_free h1.1 (by omega)
  rcases List.mem_cons.mp hq with rfl | hq
  · exact strN_free h2.1 (by omega)
  rcases List.mem_cons.mp hq with rfl | hq
  · exact strN_free h3.1 (by omega)
  · cases hq
theorem textN_split {N : Nt} (ho : N.ok) : Txt.split (textN N) "\n" = rowsN N := by
  have n10 := ho.n10
  refine TL.split_join tl_nl (by decide +kernel) ?_ fun q hq => ?_
  · intro e
    have l := congrArg List.length e
    unfold rowsN at l
    rw [List.length_append, List.length_map, upto_length, List.length_nil] at l
    have := ho.n1
    have : N.n = N.needs.length := rfl
    omega
  · have sp : 10 ∉ TL.tl (" " : Str) := by rw [tl_sp]; decide
    have ln : 10 ∉ TL.tl ("line " : Str) := by decide +kernel
    rcases List.mem_append.mp hq with h | h
    · obtain ⟨p, hp, rfl⟩ := List.mem_map.mp h
      have sm := (needP_sm ho (mem_upto.mp hp)).1
      unfold placeRow
      rw [TL.tl_append, TL.tl_append, List.mem_append, List.mem_append]
      rintro ((h | h) | h)
      · exact (word_free N p).2 h
      · exact sp h
      · exact strN_free sm.1 (by omega) h
    · obtain ⟨w, hw, rfl⟩ := List.mem_map.mp h
      have b := ho.wr w hw
      unfold lineRow
      simp only [TL.tl_append, List.mem_append]
      rintro (((((h | h) | h) | h) | h) | h)
      · exact ln h
      · exact strN_free b.1.1 (by omega) h
      · exact sp h
      · exact strN_free b.2.1.1 (by omega) h
      · exact sp h
      · exact strN_free b.2.2.2.1 (by omega) h
end CL

namespace CL
open PySem L2
local macro_rules | `(tactic| walk_at "cl") => `(tactic| simp -dsimp only [br_true, br_false, ↓u_seq, ↓u_skip, ↓u_expr, ↓u_if, ↓u_ret, ↓retK_fz, ↓retK_lst, ↓retK_dct, ↓retK_obj, ↓retK_lsc, ↓retK_ali, ↓u_set, ↓rest_fz, ↓rest_lst, ↓rest_dct, ↓rest_obj, ↓rest_lsc, ↓rest_ali, ↓toD_fz, ↓toD_lst, ↓toD_dct, ↓toD_obj, ↓toD_lsc, ↓toD_ali, ↓toDs_nil, ↓toDs_cons, frz_fz, frz_lst, frz_dct, ↓u_var, varK_fz, varK_lst, varK_dct, varK_obj, varK_lsc, ↓u_C, ↓u_nil, ↓u_cons, ↓u_F, ↓u_fS, ↓u_fL, opt_some, opt_if, svs_nil, svs_cons, sv_fz, sv_lst, sv_dct, sv_ali, svO_lst, svO_fz, svO_dct, get0, getS, ↓u_B, ↓u_and, ↓u_or, ↓u_not, ↓u_yes, ↓u_andV, ↓u_orV, ↓u_notV, ↓u_ifE, ↓u_chain, ↓u_tup, ↓u_lst, ↓u_lsc, ↓u_dict0, ↓u_fAdd, ↓add_int, ↓add_str, ↓add_lst, ↓add_tup, ↓u_fMul, ↓mul_int, ↓mul_lst, ↓u_fIx, ↓ix_lst, ↓ix_tup, ↓ix_scr, ↓ix_str, ↓u_fTuple, ↓tup_lst, ↓tup_tup, ↓u_fDGet, ↓dget_dct, ↓u_sl, ↓sl_lst, ↓sl_tup, ↓sl_str, ↓u_no, ↓u_so, ↓u_lput, ↓lputK_int, lputO_lst, ↓u_dput, ↓dputC_fz, dputO_dct, ownL_isL, ownD_isDc, live_isLv, isL_lst, isDc_dct, isLv_lst, isLv_fz, isLv_obj, isLv_dct, isLv_lsc, ↓u_meth, methO_lst, ↓u_app, appO_lst, ↓u_pop, ↓u_popAt, ↓u_clear, ↓u_asg, ↓u_gN, ↓u_gTu, ↓u_gsN, ↓u_gsC, ↓fldV_fz, fldO_obj, ↓fldK_fz, ↓fldK_ali, ↓u_fld, ↓u_callV, ↓outV_ok, ↓outV_ex, ↓u_callB, ↓outB_ok, ↓outB_ex, ↓outM_ok, ↓u_methV, ↓methD_obj, ↓outI_ok, ↓u_make, ↓u_fset, fset_0, fset_1, fset_2, fset_3, fset_4, fset_5, xc_endK, rt_endK, nx_endK, ↓u_for, ↓u_while, ↓u_lc, ↓u_itL, ↓itL_lst, ↓itL_tup, ↓itL_scr, ↓u_itU, ↓itU_tup, ↓u_rg1, ↓u_rg2, ↓u_lrg1, ↓u_lrg2, atI_0, atI_1, atI_2, atI_3, gSub_int, gDiv_int, gMod_int, gPow_18, gPow_6, gLt_int, gLe_int, gGt_int, gGe_int, gMax_int, gMin_int, gNeg_int, gInt_int, gInt_bl, gLen_lst, gLen_tup, gLen_scr, gLen_dct, gLen_str, gList_lst, gList_tup, gRev_lst, gSorted_li, gSorted_ti, gSum_li, gIsN_non, gIsN_int, gNotN_non, gNotN_int, gEq_int, gNe_int, gEq_LI, gNe_LI, gNe_LI0, gIn_int, gNotIn_int, ↓ixN_c0, ↓ixN_c1, ↓ixN_c2, ↓ixN_c3, frz_net, fget_needs, fget_roots, fget_wires, fget_net1, fget_kept, fget_used, fget_net2, fget_begin, fget_dark, fget_first, fget_far, fget_by, fget_net3, fget_state, fget_told, rangeD_upto, gIs_non, isB_int_non, isB_bool_non, isB_str_non, isB_list_non, isB_tuple_non, isB_dict_non, gIs_bl, isB_int_bl, isB_bool_bl, isB_str_bl, isB_list_bl, isB_tuple_bl, isB_dict_bl, gIs_int, isB_int_int, isB_bool_int, isB_str_int, isB_list_int, isB_tuple_int, isB_dict_int, gIs_str, isB_int_str, isB_bool_str, isB_str_str, isB_list_str, isB_tuple_str, isB_dict_str, gIs_tup, isB_int_tup, isB_bool_tup, isB_str_tup, isB_list_tup, isB_tuple_tup, isB_dict_tup, gIs_lst, isB_int_lst, isB_bool_lst, isB_str_lst, isB_list_lst, isB_tuple_lst, isB_dict_lst, gIs_dct, isB_int_dct, isB_bool_dct, isB_str_dct, isB_list_dct, isB_tuple_dct, isB_dict_dct, gNe_tt, gNe_ff, gNe_tf, gNe_ft, gEq_tt, gEq_ff, gIsN_lst, gNotN_lst, gIsN_tup, gNotN_tup, gIsN_str, gNotN_str, gIsN_bl, gNotN_bl, gIsN_dct, gNotN_dct, ↓rest_Dc, isLv_Dc, ↓u_callL, ↓outL_ok, ↓outL_ex, ↓outML_ok, ↓u_methL, ↓methLD_obj, ↓u_callB1, ↓b1A_two, ↓b1D_ali, ↓b1D_fz, ↓u_methB, ↓outMB_ok, isObj_obj, ↓u_fMinD, ↓minK_lst, ↓u_raise2, ↓r2K_two, ↓u_raise1, ↓r1K_one, ↓u_raise0, ↓u_try, kd_int, gDIn_yes, gDIn_no, varK_sqC, sv_sqV, ↓itL_sq, gList_sq, gLen_sq, gSorted_sq, gNe_nil2, gEq_nil2, gEq_LI0, ↓u_par, setAll_nil, setAll_cons, noAli_nil, noAli_fz, noAli_lst, noAli_dct, noAli_obj, gIsB_bl, ↓u_fdget, ↓u_fdcopy, ↓u_fdput, fldD_2, setFD_2, keyO_int, ↓u_dgetN, ↓dgetNK_dct, ↓u_forO, ↓forOC_lst, ↓u_lc2, ↓u_lk, ↓lkO_dct, ↓lkK_lst, noAli_dz, noAli_dz0, noAli_dz1, noAli_dz2, noAli_dz3, ↓u_itK, ↓itKO_dfz, ↓u_dzGet, ↓dzO_dfz, ↓u_join, ↓joinK_some, ↓u_split, ↓splK_str, ↓u_itS, ↓itSK_str, upto_length, Bool.not_true, Bool.not_false, decide_true, decide_false, Option.bind_some, Option.map_some, List.set_cons_zero, List.set_cons_succ, true_and, and_true, List.map_cons, List.map_nil, decide_eq_true_eq, Bool.and_eq_true, List.length_map, List.length_range, List.length_cons, List.length_nil, Nat.zero_add, Nat.reduceAdd, Nat.reduceLT, Nat.reduceLeDiff, Int.reduceToNat, Int.reduceLT, Int.reduceLE, List.getElem?_cons_zero, List.eraseIdx_cons_zero, List.all_cons, List.all_nil, Bool.and_true, Bool.true_and])
/-! # read -/
def srcN (N : Nt) (t : Nat) : List Int := ((upto N.n).take t).filter fun p => decide (p ∈ N.roots)
@[reducible] def S_read : FSpec := ⟨Nt, none, fun N => [.fz (.str (textN N))], fun N => N.ok, fun N o => o = .ok N.srt.c .un⟩
def w_read : WS := (wSeq (wSet 1 (wLst wNil)) (wSeq (wSet 2 (wLst wNil)) (wSeq (wSet 3 (wLst wNil)) (wSeq (wSet 4 (wSplit "\n" (wVar 0))) (wSeq (wFor (wRg1 (wCons (w1 (fS gLen) (wVar 4)) wNil)) (gN 5) (wSeq (wSet 6 (wSplit " " (w2 fIx (wVar 4) (wVar 5)))) (wIf (wAnd (wB (w2 (fS (gInU false)) (w2 fIx (wVar 6) (wC (.int 0))) (wTup (wCons (wC (.str "place")) (wCons (wC (.str "source")) wNil))))) (wAnd (wB (w2 (fS gEq) (w1 (fS gLen) (wVar 6)) (wC (.int 2)))) (wB (w2 (fS gEq) (wVar 3) (wLst wNil))))) (wSeq (wIf (wB (w2 (fS gEq) (w2 fIx (wVar 6) (wC (.int 0))) (wC (.str "source")))) (wExpr (wMeth 2 (wCons (w1 (fS gLen) (wVar 1)) wNil) (mApp 2))) wSkip) (wExpr (wMeth 1 (wCons (wCallV S_number_of (wCons (w2 fIx (wVar 6) (wC (.int 1))) (wCons (wVar 5) wNil))) wNil) (mApp 1)))) (wIf (wAnd (wB (w2 (fS gEq) (w2 fIx (wVar 6) (wC (.int 0))) (wC (.str "line")))) (wB (w2 (fS gEq) (w1 (fS gLen) (wVar 6)) (wC (.int 4))))) (wExpr (wMeth 3 (wCons (w1 fTuple (wLc 7 (wItL (wSl (wVar 6) (wSo (wC (.int 1))) wNo)) wYes (wCallV S_number_of (wCons (wVar 7) (wCons (wVar 5) wNil))))) wNil) (mApp 3))) wNever)))) (wRet (wMake 0 S_Net_init (wCons (wVar 1) (wCons (wVar 2) (wCons (wVar 3) wNil))))))))))
theorem gIn_ps (N : Nt) (p : Int) : gInU false [.str (wordP N p), .tup [.str "place", .str "source"]] = some (.bl true) := by
  unfold wordP
  split <;> rfl
theorem gIn_line : gInU false [.str "line", .tup [.str "place", .str "source"]] = some (.bl false) := by rfl
theorem joinL_len (S : List Nat) : ∀ ps : List (List Nat), (TL.joinL S ps).length ≤ (ps.map List.length).sum + ps.length * S.length
  | [] => by simp [TL.joinL]
  | [x] => by simp [TL.joinL]
  | x :: y :: r => by
    have ih := joinL_len S (y :: r)
    show (x ++ (S ++ TL.joinL S (y :: r))).length ≤ _
    rw [List.length_append, List.length_append, List.map_cons, List.sum_cons, List.length_cons (a := x), Nat.succ_mul]
    omega
theorem textN_len {N : Nt} (ho : N.ok) : (textN N).length ≤ 2000 := by
  have n10 : N.n ≤ 10 := ho.n10
  have w10 := ho.w10
  have rlen : (rowsN N).length = N.n + N.wires.length := by
    unfold rowsN
    rw [List.length_append, List.length_map, List.length_map, upto_length]
  have sl := sum_len 28 (rowsN N) (rows_len ho)
  have jl := joinL_len (TL.tl ("\n" : Str)) ((rowsN N).map TL.tl)
  rw [tl_nl, List.map_map, List.length_map] at jl
  have e : ((rowsN N).map (List.length ∘ TL.tl)) = (rowsN N).map (·.length) := List.map_congr_left fun x _ => (TL.len_tl x).symm
  rw [e] at jl
  unfold textN
  rw [TL.join_eq, TL.len_tl, TL.tl_join, tl_nl]
  simp only [List.length_cons, List.length_nil] at jl
  omega
theorem srcN_all {N : Nt} (ho : N.ok) : srcN N N.n = isrt N.roots := by
  unfold srcN
  rw [List.take_of_length_le (by rw [upto_length]; exact Nat.le_refl _)]
  refine lt_unique ((upto_sorted _).filter _) (le_nodup_lt (isrt_sorted _) ((isrt_perm _).nodup_iff.mpr ho.rn)) fun x => ?_
  rw [List.mem_filter, (isrt_perm _).mem_iff, mem_upto, decide_eq_true_eq]
  exact ⟨fun h => h.2, fun h => ⟨ho.rr x h, h⟩⟩
theorem srcN_len (N : Nt) (t : Nat) : (srcN N t).length ≤ t := by
  unfold srcN
  exact Nat.le_trans (List.length_filter_le _ _) (by rw [List.length_take]; exact Nat.min_le_left _ _)
theorem srcN_succ {N : Nt} {t : Nat} (h : t < N.n) : srcN N (t + 1) = srcN N t ++ if (t : Int) ∈ N.roots then [(t : Int)] else [] := by
  unfold srcN
  rw [List.take_succ, upto_get h, List.filter_append]
  congr 1
  by_cases q : (t : Int) ∈ N.roots <;> simp [q]
theorem rows_lo {N : Nt} {t : Nat} (h : t < N.n) : (rowsN N)[t]? = some (placeRow N t) := by
  unfold rowsN
  rw [List.getElem?_append_left (by rw [List.length_map, upto_length]; exact h), List.getElem?_map, upto_get h]
  rfl
theorem rows_hi {N : Nt} {t : Nat} (h : N.n ≤ t) (h2 : t < (rowsN N).length) : ∃ w ∈ N.wires, N.wires[t - N.n]? = some w ∧ (rowsN N)[t]? = some (lineRow w) := by
  have l : (rowsN N).length = N.n + N.wires.length := by
    unfold rowsN
    rw [List.length_append, List.length_map, List.length_map, upto_length]
  have q : t - N.n < N.wires.length := by omega
  refine ⟨N.wires[t - N.n], List.getElem_mem q, List.getElem?_eq_getElem q, ?_⟩
  unfold rowsN
  rw [List.getElem?_append_right (by rw [List.length_map, upto_length]; exact h), List.length_map, upto_length, List.getElem?_map, List.getElem?_eq_getElem q]
  rfl
theorem sem_read (N : Nt) (hp : S_read.pre N) : w_read (S_read.args N ++ List.replicate 7 .un) (endK S_read N) := by
  have ho : N.ok := hp
  have n10 : N.n ≤ 10 := ho.n10
  have w10 := ho.w10
  have nn : N.n = N.needs.length := rfl
  have rlen : (rowsN N).length = N.n + N.wires.length := by
    unfold rowsN
    rw [List.length_append, List.length_map, List.length_map, upto_length]
  have sl := sum_len 28 (rowsN N) (rows_len ho)
  show w_read [.fz (.str (textN N)), .un, .un, .un, .un, .un, .un, .un] _
  unfold w_read
  refine seq_cut (fun ρ => ρ = [.fz (.str (textN N)), .lst (([] : List Int).map D.int), .un, .un, .un, .un, .un, .un]) (fun M hM => ?_) ?_
  · walk_at "cl"
    exact hM _ rfl
  rintro _ rfl
  refine seq_cut (fun ρ => ρ = [.fz (.str (textN N)), .lst (([] : List Int).map D.int), .lst (([] : List Int).map D.int), .un, .un, .un, .un, .un]) (fun M hM => ?_) ?_
  · walk_at "cl"
    exact hM _ rfl
  rintro _ rfl
  refine seq_cut (fun ρ => ρ = [.fz (.str (textN N)), .lst (([] : List Int).map D.int), .lst (([] : List Int).map D.int), .lst (([] : List Wr).map encW), .un, .un, .un, .un]) (fun M hM => ?_) ?_
  · walk_at "cl"
    exact hM _ rfl
  rintro _ rfl
  refine seq_cut (fun ρ => ρ = [.fz (.str (textN N)), .lst (([] : List Int).map D.int), .lst (([] : List Int).map D.int), .lst (([] : List Wr).map encW), .lst ((rowsN N).map D.str), .un, .un, .un]) (fun M hM => ?_) ?_
  · walk_at "cl"
    refine ⟨by decide +kernel, Nat.le_of_lt (lt_line (by have := textN_len ho; omega)), ?_⟩
    rw [show Str.ofString "\n" = ("\n" : Str) from rfl, textN_split ho]
    exact hM _ rfl
  rintro _ rfl
  refine seq_cut (fun ρ => ∃ c5 c6, ρ = [.fz (.str (textN N)), .lst (N.needs.map D.int), .lst ((srcN N N.n).map D.int), .lst (N.wires.map encW), .lst ((rowsN N).map D.str), c5, c6, .un]) (fun M hM => ?_) ?_
  · walk_at "cl"
    refine ⟨small62_of _ (by omega) (by omega), ?_⟩
    refine forI_intro (fun t ρ => t ≤ (rowsN N).length ∧ ∃ c5 c6, ρ = [.fz (.str (textN N)), .lst ((N.needs.take t).map D.int), .lst ((srcN N t).map D.int), .lst ((N.wires.take (t - N.n)).map encW), .lst ((rowsN N).map D.str), c5, c6, .un]) ⟨Nat.zero_le _, .un, .un, by simp [srcN]⟩ ?_ ?_
    · rintro t d _ hd ⟨ht, c5, c6, rfl⟩
      obtain ⟨hlt, rfl⟩ := upto_item hd
      have hlt' : t < (rowsN N).length := by simpa using hlt
      by_cases hp : t < N.n
      · have ea : atI ((rowsN N).map D.str) (t : Int) = some (.str (placeRow N t)) := atI_nat (by omega) (by rw [List.getElem?_map, Int.toNat_natCast, rows_lo hp]; rfl)
        have sm : Sm (needP N t) := (needP_sm ho ⟨by omega, by omega⟩).1
        have tk : N.needs.take (t + 1) = N.needs.take t ++ [needP N t] := by
          have hq : t < N.needs.length := hp
          have e : needP N (t : Int) = N.needs[t] := by
            unfold needP
            rw [Int.toNat_natCast, List.getD_eq_getElem?_getD, List.getElem?_eq_getElem hq]
            rfl
          rw [e, List.take_append_getElem hq]
        have w0 : t + 1 - N.n = 0 := by omega
        have w1 : t - N.n = 0 := by omega
        have sc := srcN_succ hp
        have pl := placeRow_len ho sm
        have nl : (N.needs.take t).length = t := by rw [List.length_take]; have : t < N.needs.length := hp; omega
        rw [w1, u_gN]
        refine ⟨by simp, ?_⟩
        refine seq_cut (fun ρ => ρ = [.fz (.str (textN N)), .lst ((N.needs.take t).map D.int), .lst ((srcN N t).map D.int), .lst (([] : List Wr).map encW), .lst ((rowsN N).map D.str), .fz (.int (t : Int)), .lst ([wordP N t, strN (needP N t)].map D.str), .un]) (fun M2 hM2 => ?_) ?_
        · walk_at "cl"
          rw [ea]
          walk_at "cl"
          refine ⟨by decide +kernel, Nat.le_of_lt (lt_line (by omega)), ?_⟩
          rw [show Str.ofString " " = (" " : Str) from rfl, placeRow_split sm]
          exact hM2 _ rfl
        rintro _ rfl
        have gw := gIn_ps N t
        walk_at "cl"
        rw [show Str.ofString "place" = ("place" : Str) from rfl, show Str.ofString "source" = ("source" : Str) from rfl, gw]
        walk_at "cl"
        refine br_t (by decide) ?_
        have wl : PyData.canLay0 (.str (wordP N t)) = true := by
          unfold wordP
          split <;> decide +kernel
        have sl2 : PyData.canLay0 (.str ("source" : Str)) = true := by decide +kernel
        have dw : decide (wordP N t = "source") = decide ((t : Int) ∈ N.roots) := by
          unfold wordP
          by_cases q : (t : Int) ∈ N.roots
          · rw [if_pos q]; simp [q]
          · rw [if_neg q]; simp only [q, decide_false]; decide +kernel
        have ln := srcN_len N t
        walk_at "cl"
        rw [show Str.ofString "source" = ("source" : Str) from rfl, gEq_strX wl sl2, dw]
        walk_at "cl"
        refine br_intro (fun g => ?_) (fun g => ?_)
        · rw [if_pos (of_decide_eq_true g)] at sc
          have sc2 : (srcN N t).map D.int ++ [D.int (t : Int)] = (srcN N (t + 1)).map D.int := by rw [sc, List.map_append]; rfl
          walk_at "cl"
          refine ⟨lt_line (by omega), lt_line (by omega), ?_⟩
          have le2 : ((N.needs.take t).map D.int).length = t := by rw [List.length_map, nl]
          refine call_intro (needP N t, (t : Int)) rfl sm ?_
          rintro _ rfl
          walk_at "cl"
          refine ⟨lt_line (by omega), lt_line (by omega), hlt', .fz (.int (t : Int)), .lst [.str (wordP N t), .str (strN (needP N t))], ?_⟩
          rw [tk, ← sc2, List.map_append, w0, nl]
          rfl
        · rw [if_neg (of_decide_eq_false g), List.append_nil] at sc
          walk_at "cl"
          refine call_intro (needP N t, (t : Int)) rfl sm ?_
          rintro _ rfl
          walk_at "cl"
          refine ⟨lt_line (by omega), lt_line (by omega), hlt', .fz (.int (t : Int)), .lst [.str (wordP N t), .str (strN (needP N t))], ?_⟩
          rw [tk, sc, List.map_append, w0]
          rfl
      · have hp' : N.n ≤ t := by omega
        obtain ⟨w, hw, hw1, hw2⟩ := rows_hi hp' hlt'
        have bw := ho.wr w hw
        have s1 : Sm w.1 := ⟨bw.1.1, by omega⟩
        have s2 : Sm w.2.1 := ⟨bw.2.1.1, by omega⟩
        have s3 : Sm w.2.2 := bw.2.2.2
        have ea : atI ((rowsN N).map D.str) (t : Int) = some (.str (lineRow w)) := atI_nat (by omega) (by rw [List.getElem?_map, Int.toNat_natCast, hw2]; rfl)
        have ll := lineRow_len s1 s2 s3
        have t1 : N.needs.take (t + 1) = N.needs.take t := by rw [List.take_of_length_le (by omega), List.take_of_length_le (by omega)]
        have t2 : srcN N (t + 1) = srcN N t := by
          unfold srcN
          rw [List.take_of_length_le (by rw [upto_length]; omega), List.take_of_length_le (by rw [upto_length]; omega)]
        have t3 : N.wires.take (t + 1 - N.n) = N.wires.take (t - N.n) ++ [w] := by
          rw [show t + 1 - N.n = t - N.n + 1 by omega, List.take_succ, hw1]
          rfl
        rw [u_gN]
        refine ⟨by simp, ?_⟩
        refine seq_cut (fun ρ => ρ = [.fz (.str (textN N)), .lst ((N.needs.take t).map D.int), .lst ((srcN N t).map D.int), .lst ((N.wires.take (t - N.n)).map encW), .lst ((rowsN N).map D.str), .fz (.int (t : Int)), .lst ([("line" : Str), strN w.1, strN w.2.1, strN w.2.2].map D.str), .un]) (fun M2 hM2 => ?_) ?_
        · walk_at "cl"
          rw [ea]
          walk_at "cl"
          refine ⟨by decide +kernel, Nat.le_of_lt (lt_line (by omega)), ?_⟩
          rw [show Str.ofString " " = (" " : Str) from rfl, lineRow_split s1 s2 s3]
          exact hM2 _ rfl
        rintro _ rfl
        walk_at "cl"
        rw [show Str.ofString "place" = ("place" : Str) from rfl, show Str.ofString "source" = ("source" : Str) from rfl, gIn_line]
        walk_at "cl"
        have sl2 : PyData.canLay0 (.str ("line" : Str)) = true := by decide +kernel
        rw [show Str.ofString "line" = ("line" : Str) from rfl, gEq_strX sl2 sl2]
        walk_at "cl"
        refine br_t (by decide) ?_
        walk_at "cl"
        have cu : cutA [D.str (Str.ofString "line"), D.str (strN w.1), D.str (strN w.2.1), D.str (strN w.2.2)] (some 1) none = [w.1, w.2.1, w.2.2].map fun x => D.str (strN x) := rfl
        rw [cu]
        refine lcI_encX (fun x => D.str (strN x)) (fun _ => true) (fun x => .int x) rfl (by simp) ?_ ?_ ?_
        · intro x hx KT hK
          walk_at "cl"
          exact hK
        · intro x hx _ KD hK
          have sx : Sm x := by
            rcases List.mem_cons.mp hx with rfl | hx
            · exact s1
            rcases List.mem_cons.mp hx with rfl | hx
            · exact s2
            rcases List.mem_cons.mp hx with rfl | hx
            · exact s3
            cases hx
          walk_at "cl"
          refine call_intro (x, (t : Int)) rfl sx ?_
          rintro _ rfl
          walk_at "cl"
          exact hK
        · have e : (([w.1, w.2.1, w.2.2].filter fun _ => true).map fun x => D.int x) = [.int w.1, .int w.2.1, .int w.2.2] := rfl
          rw [e]
          walk_at "cl"
          refine ⟨lt_line (by rw [List.length_take]; omega), lt_line (by rw [List.length_take]; omega), hlt', .fz (.int (t : Int)), .lst [.str "line", .str (strN w.1), .str (strN w.2.1), .str (strN w.2.2)], ?_⟩
          rw [t1, t2, t3, List.map_append]
          rfl
    · rintro _ ⟨ht, c5, c6, rfl⟩
      refine hM _ ⟨c5, c6, ?_⟩
      have e : ((upto ((rowsN N).length : Int).toNat).map D.int).length = (rowsN N).length := by simp
      have e1 : srcN N (rowsN N).length = srcN N N.n := by
        unfold srcN
        rw [List.take_of_length_le (by rw [upto_length]; omega), List.take_of_length_le (by rw [upto_length]; omega)]
      rw [e, e1, List.take_of_length_le (by omega), List.take_of_length_le (by omega)]
  rintro _ ⟨c5, c6, rfl⟩
  walk_at "cl"
  refine call_intro (S := S_Net_init) { needs := N.needs, roots := srcN N N.n, wires := N.wires } rfl ?_ ?_
  · rw [srcN_all ho]
    exact ho.srt
  rintro _ rfl
  refine ⟨rfl, ?_⟩
  show S_read.out N (.ok _ .un)
  show FOut.ok _ _ = FOut.ok _ _
  rw [srcN_all ho]
  unfold Nt.srt
  rw [← isrt_eq (.refl _) (isrt_sorted N.roots)]
end CL

namespace CL
open PySem L2
local macro_rules | `(tactic| walk_at "cl") => `(tactic| simp -dsimp only [br_true, br_false, ↓u_seq, ↓u_skip, ↓u_expr, ↓u_if, ↓u_ret, ↓retK_fz, ↓retK_lst, ↓retK_dct, ↓retK_obj, ↓retK_lsc, ↓retK_ali, ↓u_set, ↓rest_fz, ↓rest_lst, ↓rest_dct, ↓rest_obj, ↓rest_lsc, ↓rest_ali, ↓toD_fz, ↓toD_lst, ↓toD_dct, ↓toD_obj, ↓toD_lsc, ↓toD_ali, ↓toDs_nil, ↓toDs_cons, frz_fz, frz_lst, frz_dct, ↓u_var, varK_fz, varK_lst, varK_dct, varK_obj, varK_lsc, ↓u_C, ↓u_nil, ↓u_cons, ↓u_F, ↓u_fS, ↓u_fL, opt_some, opt_if, svs_nil, svs_cons, sv_fz, sv_lst, sv_dct, sv_ali, svO_lst, svO_fz, svO_dct, get0, getS, ↓u_B, ↓u_and, ↓u_or, ↓u_not, ↓u_yes, ↓u_andV, ↓u_orV, ↓u_notV, ↓u_ifE, ↓u_chain, ↓u_tup, ↓u_lst, ↓u_lsc, ↓u_dict0, ↓u_fAdd, ↓add_int, ↓add_str, ↓add_lst, ↓add_tup, ↓u_fMul, ↓mul_int, ↓mul_lst, ↓u_fIx, ↓ix_lst, ↓ix_tup, ↓ix_scr, ↓ix_str, ↓u_fTuple, ↓tup_lst, ↓tup_tup, ↓u_fDGet, ↓dget_dct, ↓u_sl, ↓sl_lst, ↓sl_tup, ↓sl_str, ↓u_no, ↓u_so, ↓u_lput, ↓lputK_int, lputO_lst, ↓u_dput, ↓dputC_fz, dputO_dct, ownL_isL, ownD_isDc, live_isLv, isL_lst, isDc_dct, isLv_lst, isLv_fz, isLv_obj, isLv_dct, isLv_lsc, ↓u_meth, methO_lst, ↓u_app, appO_lst, ↓u_pop, ↓u_popAt, ↓u_clear, ↓u_asg, ↓u_gN, ↓u_gTu, ↓u_gsN, ↓u_gsC, ↓fldV_fz, fldO_obj, ↓fldK_fz, ↓fldK_ali, ↓u_fld, ↓u_callV, ↓outV_ok, ↓outV_ex, ↓u_callB, ↓outB_ok, ↓outB_ex, ↓outM_ok, ↓u_methV, ↓methD_obj, ↓outI_ok, ↓u_make, ↓u_fset, fset_0, fset_1, fset_2, fset_3, fset_4, fset_5, xc_endK, rt_endK, nx_endK, ↓u_for, ↓u_while, ↓u_lc, ↓u_itL, ↓itL_lst, ↓itL_tup, ↓itL_scr, ↓u_itU, ↓itU_tup, ↓u_rg1, ↓u_rg2, ↓u_lrg1, ↓u_lrg2, atI_0, atI_1, atI_2, atI_3, gSub_int, gDiv_int, gMod_int, gPow_18, gPow_6, gLt_int, gLe_int, gGt_int, gGe_int, gMax_int, gMin_int, gNeg_int, gInt_int, gInt_bl, gLen_lst, gLen_tup, gLen_scr, gLen_dct, gLen_str, gList_lst, gList_tup, gRev_lst, gSorted_li, gSorted_ti, gSum_li, gIsN_non, gIsN_int, gNotN_non, gNotN_int, gEq_int, gNe_int, gEq_LI, gNe_LI, gNe_LI0, gIn_int, gNotIn_int, ↓ixN_c0, ↓ixN_c1, ↓ixN_c2, ↓ixN_c3, frz_net, fget_needs, fget_roots, fget_wires, fget_net1, fget_kept, fget_used, fget_net2, fget_begin, fget_dark, fget_first, fget_far, fget_by, fget_net3, fget_state, fget_told, rangeD_upto, gIs_non, isB_int_non, isB_bool_non, isB_str_non, isB_list_non, isB_tuple_non, isB_dict_non, gIs_bl, isB_int_bl, isB_bool_bl, isB_str_bl, isB_list_bl, isB_tuple_bl, isB_dict_bl, gIs_int, isB_int_int, isB_bool_int, isB_str_int, isB_list_int, isB_tuple_int, isB_dict_int, gIs_str, isB_int_str, isB_bool_str, isB_str_str, isB_list_str, isB_tuple_str, isB_dict_str, gIs_tup, isB_int_tup, isB_bool_tup, isB_str_tup, isB_list_tup, isB_tuple_tup, isB_dict_tup, gIs_lst, isB_int_lst, isB_bool_lst, isB_str_lst, isB_list_lst, isB_tuple_lst, isB_dict_lst, gIs_dct, isB_int_dct, isB_bool_dct, isB_str_dct, isB_list_dct, isB_tuple_dct, isB_dict_dct, gNe_tt, gNe_ff, gNe_tf, gNe_ft, gEq_tt, gEq_ff, gIsN_lst, gNotN_lst, gIsN_tup, gNotN_tup, gIsN_str, gNotN_str, gIsN_bl, gNotN_bl, gIsN_dct, gNotN_dct, ↓rest_Dc, isLv_Dc, ↓u_callL, ↓outL_ok, ↓outL_ex, ↓outML_ok, ↓u_methL, ↓methLD_obj, ↓u_callB1, ↓b1A_two, ↓b1D_ali, ↓b1D_fz, ↓u_methB, ↓outMB_ok, isObj_obj, ↓u_fMinD, ↓minK_lst, ↓u_raise2, ↓r2K_two, ↓u_raise1, ↓r1K_one, ↓u_raise0, ↓u_try, kd_int, gDIn_yes, gDIn_no, varK_sqC, sv_sqV, ↓itL_sq, gList_sq, gLen_sq, gSorted_sq, gNe_nil2, gEq_nil2, gEq_LI0, ↓u_par, setAll_nil, setAll_cons, noAli_nil, noAli_fz, noAli_lst, noAli_dct, noAli_obj, gIsB_bl, ↓u_fdget, ↓u_fdcopy, ↓u_fdput, fldD_2, setFD_2, keyO_int, ↓u_dgetN, ↓dgetNK_dct, ↓u_forO, ↓forOC_lst, ↓u_lc2, ↓u_lk, ↓lkO_dct, ↓lkK_lst, noAli_dz, noAli_dz0, noAli_dz1, noAli_dz2, noAli_dz3, ↓u_itK, ↓itKO_dfz, ↓u_dzGet, ↓dzO_dfz, ↓u_join, ↓joinK_some, ↓u_split, ↓splK_str, ↓u_itS, ↓itSK_str, upto_length, Bool.not_true, Bool.not_false, decide_true, decide_false, Option.bind_some, Option.map_some, List.set_cons_zero, List.set_cons_succ, true_and, and_true, List.map_cons, List.map_nil, decide_eq_true_eq, Bool.and_eq_true, List.length_map, List.length_range, List.length_cons, List.length_nil, Nat.zero_add, Nat.reduceAdd, Nat.reduceLT, Nat.reduceLeDiff, Int.reduceToNat, Int.reduceLT, Int.reduceLE, List.getElem?_cons_zero, List.eraseIdx_cons_zero, List.all_cons, List.all_nil, Bool.and_true, Bool.true_and])
/-! # the law -/
@[reducible] def S_law : FSpec := ⟨List Int, none, fun s => [.fz (.scr s)], fun _ => True, fun _ o => o = .ok (.fz (.bl true)) .un⟩
@[reducible] def S_Llike : FSpec := S_LlikeN 4
def w_law : WS := (wSeq (wSet 1 (wCallV S_Ldice (wCons (wVar 0) wNil))) (wSeq (wSet 2 (wCallB S_Lnet 1 (wCons (wC (.int 8)) (wCons (wC (.int 9)) wNil)))) (wSeq (wSet 3 (wCallB S_Lnet 1 (wCons (wC (.int 8)) (wCons (wC (.int 9)) wNil)))) (wSeq (wFor (wItL (wLst (wCons (wVar 2) (wCons (wVar 3) (wCons (wVar 2) wNil))))) (gN 4) (wSeq (wSet 5 (wCallV S_Ltext (wCons (wVar 4) wNil))) (wSeq (wSet 6 (wCallV S_written (wCons (wMake 0 S_Net_init (wCons (w2 fIx (wVar 4) (wC (.int 0))) (wCons (w2 fIx (wVar 4) (wC (.int 1))) (wCons (w2 fIx (wVar 4) (wC (.int 2))) wNil)))) wNil))) (wSeq (wIf (wOr (wNot (wB (w1 (fS (gIs .str)) (wVar 6)))) (wB (w2 (fS gNe) (wVar 6) (wVar 5)))) (wRet (wC (.bl false))) wSkip) (wSeq (wSet 7 (wCallV S_read (wCons (wVar 5) wNil))) (wSeq (wSet 8 (wLst (wCons (wLRg1 (w1 (fS gLen) (w2 fIx (wVar 4) (wC (.int 0))))) (wCons (w2 fIx (wVar 4) (wC (.int 2))) (wCons (w1 (fL gSorted) (w2 fIx (wVar 4) (wC (.int 1)))) wNil))))) (wSeq (wIf (wNot (wB (wCallV S_Llike (wCons (wLst (wCons (wMethV 0 S_Net_places (wVar 7) wNil) (wCons (wMethV 0 S_Net_lines (wVar 7) wNil) (wCons (wMethV 0 S_Net_sources (wVar 7) wNil) wNil)))) (wCons (wVar 8) wNil))))) (wRet (wC (.bl false))) wSkip) (wIf (wB (w2 (fS gNe) (wCallV S_written (wCons (wVar 7) wNil)) (wVar 5))) (wRet (wC (.bl false))) wSkip)))))))) (wRet (wC (.bl true)))))))
theorem text_srt (N : Nt) : textN N.srt = textN N := by
  have e : ∀ p, placeRow N.srt p = placeRow N p := fun p => by
    have : (p ∈ N.srt.roots) ↔ p ∈ N.roots := (isrt_perm N.roots).mem_iff
    unfold placeRow wordP
    by_cases h : p ∈ N.roots
    · rw [if_pos h, if_pos (this.mpr h)]; rfl
    · rw [if_neg h, if_neg fun z => h (this.mp z)]; rfl
  unfold textN rowsN
  congr 2
  exact List.map_congr_left fun p _ => e p
theorem lay_app {a b : Str} (ha : PyData.canLay0 (.str a) = true) (hb : PyData.canLay0 (.str b) = true) : PyData.canLay0 (.str (a ++ b)) = true := by
  have e : ∀ z : Str, PyData.canLay0 (.str z) = (TL.tl z).all (· < 0x110000) := fun z => by
    show z.cps.all (· < 0x110000) = z.cps.toList.all (· < 0x110000)
    rw [Array.all_toList]
  rw [e] at ha hb ⊢
  rw [TL.tl_append, List.all_append, ha, hb]
  rfl
theorem lay_join {z : Str} (hz : PyData.canLay0 (.str z) = true) : ∀ ys : List Str, (∀ y ∈ ys, PyData.canLay0 (.str y) = true) → PyData.canLay0 (.str (Txt.join z ys)) = true := by
  intro ys h
  rw [TL.join_eq]
  induction ys with
  | nil => exact (by decide +kernel : PyData.canLay0 (.str ("" : Str)) = true)
  | cons y r ih =>
    cases r with
    | nil => exact h y (by simp)
    | cons x r => exact lay_app (lay_app (h y (by simp)) hz) (ih fun q hq => h q (List.mem_cons_of_mem _ hq))
theorem text_lay {N : Nt} (ho : N.ok) : PyData.canLay0 (.str (textN N)) = true := by
  have l1 : PyData.canLay0 (.str (" " : Str)) = true := by decide +kernel
  have l2 : PyData.canLay0 (.str ("line " : Str)) = true := by decide +kernel
  refine lay_join (by decide +kernel) _ fun q hq => ?_
  rcases List.mem_append.mp hq with h | h
  · obtain ⟨p, hp, rfl⟩ := List.mem_map.mp h
    have sm := (needP_sm ho (mem_upto.mp hp)).1
    refine lay_app (lay_app ?_ l1) (strN_lay sm.1)
    unfold wordP
    split <;> decide +kernel
  · obtain ⟨w, hw, rfl⟩ := List.mem_map.mp h
    have b := ho.wr w hw
    exact lay_app (lay_app (lay_app (lay_app (lay_app l2 (strN_lay b.1.1)) l1) (strN_lay b.2.1.1)) l1) (strN_lay b.2.2.2.1)
theorem sem_law (s : List Int) (hp : S_law.pre s) : w_law (S_law.args s ++ List.replicate 8 .un) (endK S_law s) := by
  show w_law [.fz (.scr s), .un, .un, .un, .un, .un, .un, .un, .un] _
  unfold w_law
  refine seq_cut (fun ρ => ∃ d : Dc, d.ok ∧ ρ = [.fz (.scr s), d.c, .un, .un, .un, .un, .un, .un, .un]) (fun M hM => ?_) ?_
  · walk_at "cl"
    refine call_intro s rfl trivial ?_
    rintro _ ⟨d, hd, rfl⟩
    walk_at "cl"
    exact hM _ ⟨d, hd, rfl⟩
  rintro _ ⟨d, hd, rfl⟩
  refine seq_cut (fun ρ => ∃ (d : Dc) (N : Nt), d.ok ∧ N.ok ∧ ρ = [.fz (.scr s), d.c, .fz N.t, .un, .un, .un, .un, .un, .un]) (fun M hM => ?_) ?_
  · walk_at "cl"
    refine call_intro (d, 8, 9) rfl ⟨hd, by simp, by simp, by simp, by simp⟩ ?_
    rintro _ ⟨N, d, ho, _, _, hd, rfl⟩
    walk_at "cl"
    exact hM _ ⟨d, N, hd, ho, rfl⟩
  rintro _ ⟨d, N1, hd, h1, rfl⟩
  refine seq_cut (fun ρ => ∃ (d : Dc) (N : Nt), d.ok ∧ N.ok ∧ ρ = [.fz (.scr s), d.c, .fz N1.t, .fz N.t, .un, .un, .un, .un, .un]) (fun M hM => ?_) ?_
  · walk_at "cl"
    refine call_intro (d, 8, 9) rfl ⟨hd, by simp, by simp, by simp, by simp⟩ ?_
    rintro _ ⟨N, d, ho, _, _, hd, rfl⟩
    walk_at "cl"
    exact hM _ ⟨d, N, hd, ho, rfl⟩
  rintro _ ⟨d, N2, hd, h2, rfl⟩
  refine seq_cut (fun _ => True) (fun M hM => ?_) ?_
  · walk_at "cl"
    refine forI_intro (fun n ρ => ∃ c4 c5 c6 c7 c8, ρ = [.fz (.scr s), d.c, .fz N1.t, .fz N2.t, c4, c5, c6, c7, c8]) ⟨.un, .un, .un, .un, .un, rfl⟩ ?_ ?_
    · rintro n x _ hx ⟨c4, c5, c6, c7, c8, rfl⟩
      obtain ⟨N, ho, rfl⟩ : ∃ N : Nt, N.ok ∧ x = N.t := by
        have := List.mem_of_getElem? hx
        rcases List.mem_cons.mp this with rfl | this
        · exact ⟨N1, h1, rfl⟩
        rcases List.mem_cons.mp this with rfl | this
        · exact ⟨N2, h2, rfl⟩
        rcases List.mem_cons.mp this with rfl | this
        · exact ⟨N1, h1, rfl⟩
        cases this
      rw [u_gN]
      refine ⟨by simp, ?_⟩
      have w10 := ho.w10
      have n10 := ho.n10
      have nn : N.n = N.needs.length := rfl
      have rlen : N.roots.length ≤ 10 := by have := nodup_len ho.rn ho.rr; omega
      have tl := text_lay ho
      refine seq_cut (fun ρ => ρ = [.fz (.scr s), d.c, .fz N1.t, .fz N2.t, .fz N.t, .fz (.str (textN N)), c6, c7, c8]) (fun M2 hM2 => ?_) ?_
      · walk_at "cl"
        refine call_intro N rfl ho ?_
        rintro _ rfl
        walk_at "cl"
        exact hM2 _ rfl
      rintro _ rfl
      refine seq_cut (fun ρ => ρ = [.fz (.scr s), d.c, .fz N1.t, .fz N2.t, .fz N.t, .fz (.str (textN N)), .fz (.str (textN N)), c7, c8]) (fun M2 hM2 => ?_) ?_
      · unfold Nt.t
        walk_at "cl"
        refine call_intro N rfl ho ?_
        rintro _ rfl
        unfold Nt.c
        walk_at "cl"
        refine call_intro N.srt rfl ho.srt ?_
        rintro _ rfl
        walk_at "cl"
        rw [text_srt]
        exact hM2 _ rfl
      rintro _ rfl
      refine seq_cut (fun ρ => ρ = [.fz (.scr s), d.c, .fz N1.t, .fz N2.t, .fz N.t, .fz (.str (textN N)), .fz (.str (textN N)), c7, c8]) (fun M2 hM2 => ?_) ?_
      · walk_at "cl"
        rw [gNe_strX tl tl]
        walk_at "cl"
        refine br_f (by simp) ?_
        walk_at "cl"
        exact hM2 _ rfl
      rintro _ rfl
      refine seq_cut (fun ρ => ρ = [.fz (.scr s), d.c, .fz N1.t, .fz N2.t, .fz N.t, .fz (.str (textN N)), .fz (.str (textN N)), N.srt.c, c8]) (fun M2 hM2 => ?_) ?_
      · walk_at "cl"
        refine call_intro N rfl ho ?_
        rintro _ rfl
        unfold Nt.c
        walk_at "cl"
        exact hM2 _ rfl
      rintro _ rfl
      refine seq_cut (fun ρ => ρ = [.fz (.scr s), d.c, .fz N1.t, .fz N2.t, .fz N.t, .fz (.str (textN N)), .fz (.str (textN N)), N.srt.c, .lst [.lst ((upto N.n).map D.int), .lst (N.wires.map encW), .lst ((isrt N.roots).map D.int)]]) (fun M2 hM2 => ?_) ?_
      · unfold Nt.t
        walk_at "cl"
        refine ⟨⟨by omega, by omega⟩, hM2 _ ?_⟩
        simp [nn, Nt.t]
      rintro _ rfl
      refine seq_cut (fun ρ => ∃ c8, ρ = [.fz (.scr s), d.c, .fz N1.t, .fz N2.t, .fz N.t, .fz (.str (textN N)), .fz (.str (textN N)), .fz N.srt.d, c8]) (fun M2 hM2 => ?_) ?_
      · unfold Nt.c
        walk_at "cl"
        refine call_intro N.srt rfl ho.srt ?_
        rintro _ rfl
        walk_at "cl"
        refine call_intro N.srt rfl ho.srt ?_
        rintro _ rfl
        walk_at "cl"
        refine call_intro N.srt rfl ho.srt ?_
        rintro _ rfl
        walk_at "cl"
        refine call_intro (S := S_LlikeN 4) (D.lst [.lst ((upto N.n).map D.int), .lst (N.wires.map encW), .lst ((isrt N.roots).map D.int)]) rfl ?_ ?_
        · show plainD 4 _ = true
          have pw : ∀ n, plainD (n + 3) (.lst (N.wires.map encW)) = true := fun n => by
            have q : plainDs (n + 2) (N.wires.map encW) = true := plainDs_all fun d hd => by
              obtain ⟨w, _, rfl⟩ := List.mem_map.mp hd
              rfl
            simp only [plainD, q, List.length_map, Bool.true_and, decide_eq_true_eq]
            omega
          have p1 : plainD 3 (.lst ((upto N.n).map D.int)) = true := plain_LI (by rw [upto_length]; omega)
          have p2 : plainD 3 (.lst ((isrt N.roots).map D.int)) = true := plain_LI (by rw [(isrt_perm N.roots).length_eq]; omega)
          have p3 := pw 0
          simp [plainD, plainDs] at p1 p2 p3 ⊢
          exact ⟨p1, p3, p2⟩
        rintro _ rfl
        walk_at "cl"
        exact hM2 _ ⟨_, rfl⟩
      rintro _ ⟨c8, rfl⟩
      walk_at "cl"
      refine call_intro N.srt rfl ho.srt ?_
      rintro _ rfl
      walk_at "cl"
      rw [text_srt, gNe_strX tl tl]
      walk_at "cl"
      refine br_f (by simp) ?_
      walk_at "cl"
      exact ⟨_, _, _, _, _, rfl⟩
    · rintro _ _
      exact hM _ trivial
  rintro ρ _
  walk_at "cl"
  rfl
end CL

namespace Kl
open PySem PySem.Spec PyProof.Rows L2 CL
def top (i : Nat) : Stmt := PySem.Challenge.pw_cuelight_k16_written_and_read.main.body.getD i (.Pass ⟨0, 0, 0, 0⟩)
def tabs (K : PySem.W.Frag) (c0 : Addr) : Tabs := ⟨K, fun n => if n = 0 then c0 else 0, []⟩
abbrev s_Net_init : Stmt := inClass (top 9) 0
theorem sc_Net_init : FnScope ["self", "needs", "sources", "lines", "at", "one", "other", "limit"] ["self", "needs", "sources", "lines"] (defScope s_Net_init) := ⟨rfl, rfl, rfl, by decide +kernel, rfl, by decide +kernel, by decide +kernel⟩
abbrev s_Net_places : Stmt := inClass (top 9) 1
theorem sc_Net_places : FnScope ["self"] ["self"] (defScope s_Net_places) := ⟨rfl, rfl, rfl, by decide +kernel, rfl, by decide +kernel, by decide +kernel⟩
abbrev s_Net_lines : Stmt := inClass (top 9) 2
theorem sc_Net_lines : FnScope ["self"] ["self"] (defScope s_Net_lines) := ⟨rfl, rfl, rfl, by decide +kernel, rfl, by decide +kernel, by decide +kernel⟩
abbrev s_Net_sources : Stmt := inClass (top 9) 3
theorem sc_Net_sources : FnScope ["self"] ["self"] (defScope s_Net_sources) := ⟨rfl, rfl, rfl, by decide +kernel, rfl, by decide +kernel, by decide +kernel⟩
abbrev s_written : Stmt := top 13
theorem sc_written : FnScope ["net", "rows", "place", "word", "one", "other", "limit"] ["net"] (defScope s_written) := ⟨rfl, rfl, rfl, by decide +kernel, rfl, by decide +kernel, by decide +kernel⟩
abbrev s_number_of : Stmt := top 14
theorem sc_number_of : FnScope ["word", "row", "sign"] ["word", "row"] (defScope s_number_of) := ⟨rfl, rfl, rfl, by decide +kernel, rfl, by decide +kernel, by decide +kernel⟩
abbrev s_read : Stmt := top 15
theorem sc_read : FnScope ["text", "needs", "sources", "lines", "rows", "at", "words", "word"] ["text"] (defScope s_read) := ⟨rfl, rfl, rfl, by decide +kernel, rfl, by decide +kernel, by decide +kernel⟩
abbrev s_Ldice : Stmt := top 17
theorem sc_Ldice : FnScope ["_law_script", "_law_mixed", "_law_cell"] ["_law_script"] (defScope s_Ldice) := ⟨rfl, rfl, rfl, by decide +kernel, rfl, by decide +kernel, by decide +kernel⟩
abbrev s_Lnext : Stmt := top 18
theorem sc_Lnext : FnScope ["_law_dice_here", "_law_many", "_law_found", "_law_cell"] ["_law_dice_here", "_law_many"] (defScope s_Lnext) := ⟨rfl, rfl, rfl, by decide +kernel, rfl, by decide +kernel, by decide +kernel⟩
abbrev s_Lnet : Stmt := top 20
theorem sc_Lnet : FnScope ["_law_d", "_law_places", "_law_lines", "_law_many", "_law_needs", "_law_sources", "_law_rows", "_law_k", "_law_place", "_law_one", "_law_other", "_law_limit"] ["_law_d", "_law_places", "_law_lines"] (defScope s_Lnet) := ⟨rfl, rfl, rfl, by decide +kernel, rfl, by decide +kernel, by decide +kernel⟩
abbrev s_Llike : Stmt := top 19
theorem sc_Llike : FnScope ["_law_found", "_law_due", "_law_k"] ["_law_found", "_law_due"] (defScope s_Llike) := ⟨rfl, rfl, rfl, by decide +kernel, rfl, by decide +kernel, by decide +kernel⟩
abbrev s_Ltext : Stmt := top 21
theorem sc_Ltext : FnScope ["_law_net_here", "_law_rows", "_law_place", "_law_line", "_law_number"] ["_law_net_here"] (defScope s_Ltext) := ⟨rfl, rfl, rfl, by decide +kernel, rfl, by decide +kernel, by decide +kernel⟩
abbrev s_law : Stmt := top 22
theorem sc_law : FnScope ["_law_script", "_law_d", "_law_one", "_law_other", "_law_rows", "_law_text_here", "_law_found", "_law_net_here", "_law_due"] ["_law_script"] (defScope s_law) := ⟨rfl, rfl, rfl, by decide +kernel, rfl, by decide +kernel, by decide +kernel⟩
structure Gx (K : PySem.W.Frag) (mg : Str → Option Value) (c0 : Addr) : Prop where
  k0 : ClsOk (tabs K c0) 0
  MOST_PLACES : ∃ t, mg "MOST_PLACES" = some (.int 10 t)
  MOST_LINES : ∃ t, mg "MOST_LINES" = some (.int 10 t)
  MOST_NUMBER : ∃ t, mg "MOST_NUMBER" = some (.int 1000000 t)
  MOST_FIGURES : ∃ t, mg "MOST_FIGURES" = some (.int 7 t)
  FIGURES : ∃ t, mg "FIGURES" = some (.str "0123456789" t)
  tr : True
section
variable {P : Program} {w : World} {K : PySem.W.Frag} {mg : Str → Option Value} {base : Heap} {c0 : Addr}
theorem ok_Net_init (d : Di K mg (tabs K c0) 0 "Net" "Net.__init__" s_Net_init ["self", "needs", "sources", "lines"]) (B : Bi mg) (G : Gx K mg c0) : Oki P w K mg base (tabs K c0) 1 0 "Net" S_Net_init := by
  refine d.ok sc_Net_init w_Net_init (fun _ => rfl) (fun j h => by first | (have h2 : (none : Option Nat) = some j := h; cases h2) | (have h2 : (some 0 : Option Nat) = some j := h; cases h2; decide) | (have h2 : (some 1 : Option Nat) = some j := h; cases h2; decide)) (fun a h => sem_Net_init a h) (fun f cdv A outer s H E hr => by
    have tk := L2N.takes_of (X := cxOf (L2N.CX P w) P w K mg base ["self", "needs", "sources", "lines", "at", "one", "other", "limit"] "Net.__init__" (defScope s_Net_init) f cdv A outer s H E) rfl rfl rfl rfl
    have hp := passes_of (X := cxOf (L2N.CX P w) P w K mg base ["self", "needs", "sources", "lines", "at", "one", "other", "limit"] "Net.__init__" (defScope s_Net_init) f cdv A outer s H E) rfl
    have hu1 := hu_le hr (n := 1) (by decide)
    have hu64 := hu_le hr (n := 64) (by decide)
    have hu65 := hu_le hr (n := 65) (by decide)
    have scN := sc_Net_init.nd
    exact (sb_cons (ss_if (sw_or (cmp_lt (se_len rfl B.len (se_var 1)) se_int).st (sw_or1 (cmp_gt (se_len rfl B.len (se_var 1)) (se_gint G.MOST_PLACES)).st)).st (sb_one ss_never) sb_nil)
    (sb_cons (ss_for hp rfl (si_range1 B.range (sa_cons (se_len rfl B.len (se_var 1)) sa_nil)) (sg_name 4 scN) (sb_one (ss_if (sw_or (cmp_lt (se_ix rfl (se_var 1) (se_var 4)) se_int).st (sw_or1 (cmp_gt (se_ix rfl (se_var 1) (se_var 4)) (se_gint G.MOST_NUMBER)).st)).st (sb_one ss_never) sb_nil)))
    (sb_cons (ss_for hp rfl (si_range1 B.range (sa_cons (se_len rfl B.len (se_var 2)) sa_nil)) (sg_name 4 scN) (sb_one (ss_if (sw_or (st_not (cmp_chain (p := (fun i j => decide (i ≤ j))) (q := (fun i j => decide (i < j))) op_le op_lt se_int (se_ix rfl (se_var 2) (se_var 4)) (se_len rfl B.len (se_var 1))).st) (sw_or1 (cmp_inU (se_ix rfl (se_var 2) (se_var 4)) (se_sl rfl (se_var 2) so_no (so_so (se_var 4)))).st)).st (sb_one ss_never) sb_nil)))
    (sb_cons (ss_if (cmp_gt (se_len rfl B.len (se_var 3)) (se_gint G.MOST_LINES)).st (sb_one ss_never) sb_nil)
    (sb_cons (ss_for hp rfl (si_range1 B.range (sa_cons (se_len rfl B.len (se_var 3)) sa_nil)) (sg_name 4 scN) (sb_cons (ss_asg (se_ix rfl (se_var 3) (se_var 4)) (sg_tup rfl rfl (sgs_cons (sg_name 5 scN) (sgs_cons (sg_name 6 scN) (sgs_cons (sg_name 7 scN) sgs_nil)))))
    (sb_cons (ss_if (sw_or (st_not (cmp_chain (p := (fun i j => decide (i ≤ j))) (q := (fun i j => decide (i < j))) op_le op_lt se_int (se_var 5) (se_len rfl B.len (se_var 1))).st) (sw_or (st_not (cmp_chain (p := (fun i j => decide (i ≤ j))) (q := (fun i j => decide (i < j))) op_le op_lt se_int (se_var 6) (se_len rfl B.len (se_var 1))).st) (sw_or1 (cmp_eq hu64 (se_var 5) (se_var 6)).st))).st (sb_one ss_never) sb_nil)
    (sb_one (ss_if (sw_or (cmp_lt (se_var 7) se_int).st (sw_or1 (cmp_gt (se_var 7) (se_gint G.MOST_NUMBER)).st)).st (sb_one ss_never) sb_nil)))))
    (sb_cons (ss_fset 0 0 G.k0 rfl (se_list rfl B.list (se_var 1)))
    (sb_cons (ss_fset 0 1 G.k0 rfl (se_sorted rfl B.sorted (se_var 2)))
    (sb_one (ss_fset 0 2 G.k0 rfl (se_list rfl B.list (se_var 3))))))))))))
theorem ok_Net_places (d : Dm K (tabs K c0) 0 "places" "Net.places" s_Net_places ["self"]) (B : Bi mg) (G : Gx K mg c0) : Okm P w K mg base (tabs K c0) 1 0 "places" S_Net_places := by
  refine d.ok sc_Net_places w_Net_places (fun _ => rfl) (fun j h => by first | (have h2 : (none : Option Nat) = some j := h; cases h2) | (have h2 : (some 0 : Option Nat) = some j := h; cases h2; decide) | (have h2 : (some 1 : Option Nat) = some j := h; cases h2; decide)) (fun a h => sem_Net_places a h) (fun f cdv A outer s H E hr => by
    have tk := L2N.takes_of (X := cxOf (L2N.CX P w) P w K mg base ["self"] "Net.places" (defScope s_Net_places) f cdv A outer s H E) rfl rfl rfl rfl
    have hp := passes_of (X := cxOf (L2N.CX P w) P w K mg base ["self"] "Net.places" (defScope s_Net_places) f cdv A outer s H E) rfl
    have hu1 := hu_le hr (n := 1) (by decide)
    have hu64 := hu_le hr (n := 64) (by decide)
    have hu65 := hu_le hr (n := 65) (by decide)
    have scN := sc_Net_places.nd
    exact (sb_one (ss_ret (se_lrange1 rfl B.list B.range (se_len rfl B.len (se_fld rfl G.k0 (se_var 0)))))))
theorem ok_Net_lines (d : Dm K (tabs K c0) 0 "lines" "Net.lines" s_Net_lines ["self"]) (B : Bi mg) (G : Gx K mg c0) : Okm P w K mg base (tabs K c0) 1 0 "lines" S_Net_lines := by
  refine d.ok sc_Net_lines w_Net_lines (fun _ => rfl) (fun j h => by first | (have h2 : (none : Option Nat) = some j := h; cases h2) | (have h2 : (some 0 : Option Nat) = some j := h; cases h2; decide) | (have h2 : (some 1 : Option Nat) = some j := h; cases h2; decide)) (fun a h => sem_Net_lines a h) (fun f cdv A outer s H E hr => by
    have tk := L2N.takes_of (X := cxOf (L2N.CX P w) P w K mg base ["self"] "Net.lines" (defScope s_Net_lines) f cdv A outer s H E) rfl rfl rfl rfl
    have hp := passes_of (X := cxOf (L2N.CX P w) P w K mg base ["self"] "Net.lines" (defScope s_Net_lines) f cdv A outer s H E) rfl
    have hu1 := hu_le hr (n := 1) (by decide)
    have hu64 := hu_le hr (n := 64) (by decide)
    have hu65 := hu_le hr (n := 65) (by decide)
    have scN := sc_Net_lines.nd
    exact (sb_one (ss_ret (se_list rfl B.list (se_fld rfl G.k0 (se_var 0))))))
theorem ok_Net_sources (d : Dm K (tabs K c0) 0 "sources" "Net.sources" s_Net_sources ["self"]) (B : Bi mg) (G : Gx K mg c0) : Okm P w K mg base (tabs K c0) 1 0 "sources" S_Net_sources := by
  refine d.ok sc_Net_sources w_Net_sources (fun _ => rfl) (fun j h => by first | (have h2 : (none : Option Nat) = some j := h; cases h2) | (have h2 : (some 0 : Option Nat) = some j := h; cases h2; decide) | (have h2 : (some 1 : Option Nat) = some j := h; cases h2; decide)) (fun a h => sem_Net_sources a h) (fun f cdv A outer s H E hr => by
    have tk := L2N.takes_of (X := cxOf (L2N.CX P w) P w K mg base ["self"] "Net.sources" (defScope s_Net_sources) f cdv A outer s H E) rfl rfl rfl rfl
    have hp := passes_of (X := cxOf (L2N.CX P w) P w K mg base ["self"] "Net.sources" (defScope s_Net_sources) f cdv A outer s H E) rfl
    have hu1 := hu_le hr (n := 1) (by decide)
    have hu64 := hu_le hr (n := 64) (by decide)
    have hu65 := hu_le hr (n := 65) (by decide)
    have scN := sc_Net_sources.nd
    exact (sb_one (ss_ret (se_list rfl B.list (se_fld rfl G.k0 (se_var 0))))))
theorem ok_written (d : Df K mg "written" s_written ["net"]) (B : Bi mg) (G : Gx K mg c0) (o_Net_places : Okm P w K mg base (tabs K c0) 1 0 "places" S_Net_places) : Okd P w K mg base (tabs K c0) 2 "written" S_written := by
  refine d.ok sc_written w_written (fun _ => rfl) (fun j h => by first | (have h2 : (none : Option Nat) = some j := h; cases h2) | (have h2 : (some 0 : Option Nat) = some j := h; cases h2; decide) | (have h2 : (some 1 : Option Nat) = some j := h; cases h2; decide)) (fun a h => sem_written a h) (fun f cdv A outer s H E hr => by
    have tk := L2N.takes_of (X := cxOf (L2N.CX P w) P w K mg base ["net", "rows", "place", "word", "one", "other", "limit"] "written" (defScope s_written) f cdv A outer s H E) rfl rfl rfl rfl
    have hp := passes_of (X := cxOf (L2N.CX P w) P w K mg base ["net", "rows", "place", "word", "one", "other", "limit"] "written" (defScope s_written) f cdv A outer s H E) rfl
    have hu1 := hu_le hr (n := 1) (by decide)
    have hu64 := hu_le hr (n := 64) (by decide)
    have hu65 := hu_le hr (n := 65) (by decide)
    have scN := sc_written.nd
    exact (sb_cons (ss_set 1 scN (se_lst sa_nil))
    (sb_cons (ss_for hp rfl (si_list rfl (se_methV0 G.k0 rfl (o_Net_places.fn hr (by decide)) (se_var 0))) (sg_name 2 scN) (sb_cons (ss_set 3 scN se_str)
    (sb_cons (ss_if (cmp_inU (se_var 2) (se_fld rfl G.k0 (se_var 0))).st (sb_one (ss_set 3 scN se_str)) sb_nil)
    (sb_one (ss_expr (se_meth (i := 1) PySem.F.slot_list_append PySem.F.type_list_append mt_append ms_app (sa_cons (se_add rfl (se_add rfl (se_var 3) se_str) (se_str1 B.str (se_ix rfl (se_fld rfl G.k0 (se_var 0)) (se_var 2)))) sa_nil)))))))
    (sb_cons (ss_for hp rfl (si_list rfl (se_fld rfl G.k0 (se_var 0))) (sg_tup rfl rfl (sgs_cons (sg_name 4 scN) (sgs_cons (sg_name 5 scN) (sgs_cons (sg_name 6 scN) sgs_nil)))) (sb_one (ss_expr (se_meth (i := 1) PySem.F.slot_list_append PySem.F.type_list_append mt_append ms_app (sa_cons (se_add rfl (se_add rfl (se_add rfl (se_add rfl (se_add rfl se_str (se_str1 B.str (se_var 4))) se_str) (se_str1 B.str (se_var 5))) se_str) (se_str1 B.str (se_var 6))) sa_nil)))))
    (sb_one (ss_ret (se_join "\n" rfl (se_var 1))))))))
theorem ok_number_of (d : Df K mg "number_of" s_number_of ["word", "row"]) (B : Bi mg) (G : Gx K mg c0) : Okd P w K mg base (tabs K c0) 1 "number_of" S_number_of := by
  refine d.ok sc_number_of w_number_of (fun _ => rfl) (fun j h => by first | (have h2 : (none : Option Nat) = some j := h; cases h2) | (have h2 : (some 0 : Option Nat) = some j := h; cases h2; decide) | (have h2 : (some 1 : Option Nat) = some j := h; cases h2; decide)) (fun a h => sem_number_of a h) (fun f cdv A outer s H E hr => by
    have tk := L2N.takes_of (X := cxOf (L2N.CX P w) P w K mg base ["word", "row", "sign"] "number_of" (defScope s_number_of) f cdv A outer s H E) rfl rfl rfl rfl
    have hp := passes_of (X := cxOf (L2N.CX P w) P w K mg base ["word", "row", "sign"] "number_of" (defScope s_number_of) f cdv A outer s H E) rfl
    have hu1 := hu_le hr (n := 1) (by decide)
    have hu64 := hu_le hr (n := 64) (by decide)
    have hu65 := hu_le hr (n := 65) (by decide)
    have scN := sc_number_of.nd
    exact (sb_cons (ss_if (sw_or (cmp_eq hu64 (se_var 0) se_str).st (sw_or (cmp_gt (se_len rfl B.len (se_var 0)) (se_gint G.MOST_FIGURES)).st (sw_or1 (sw_and (cmp_eq hu64 (se_ix rfl (se_var 0) se_int) se_str).st (sw_and1 (cmp_ne hu64 (se_var 0) se_str).st)).st))).st (sb_one ss_never) sb_nil)
    (sb_cons (ss_for hp rfl (si_str (se_var 0)) (sg_name 2 scN) (sb_one (ss_if (cmp_noSign (se_var 2) (se_gstr G.FIGURES)).st (sb_one ss_never) sb_nil)))
    (sb_one (ss_ret (se_intS B.int (se_var 0)))))))
theorem ok_read (d : Df K mg "read" s_read ["text"]) (B : Bi mg) (G : Gx K mg c0) (o_Net_init : Oki P w K mg base (tabs K c0) 1 0 "Net" S_Net_init) (o_number_of : Okd P w K mg base (tabs K c0) 1 "number_of" S_number_of) : Okd P w K mg base (tabs K c0) 3 "read" S_read := by
  refine d.ok sc_read w_read (fun _ => rfl) (fun j h => by first | (have h2 : (none : Option Nat) = some j := h; cases h2) | (have h2 : (some 0 : Option Nat) = some j := h; cases h2; decide) | (have h2 : (some 1 : Option Nat) = some j := h; cases h2; decide)) (fun a h => sem_read a h) (fun f cdv A outer s H E hr => by
    have tk := L2N.takes_of (X := cxOf (L2N.CX P w) P w K mg base ["text", "needs", "sources", "lines", "rows", "at", "words", "word"] "read" (defScope s_read) f cdv A outer s H E) rfl rfl rfl rfl
    have hp := passes_of (X := cxOf (L2N.CX P w) P w K mg base ["text", "needs", "sources", "lines", "rows", "at", "words", "word"] "read" (defScope s_read) f cdv A outer s H E) rfl
    have hu1 := hu_le hr (n := 1) (by decide)
    have hu64 := hu_le hr (n := 64) (by decide)
    have hu65 := hu_le hr (n := 65) (by decide)
    have scN := sc_read.nd
    exact (sb_cons (ss_set 1 scN (se_lst sa_nil))
    (sb_cons (ss_set 2 scN (se_lst sa_nil))
    (sb_cons (ss_set 3 scN (se_lst sa_nil))
    (sb_cons (ss_set 4 scN (se_split "\n" (se_var 0)))
    (sb_cons (ss_for hp rfl (si_range1 B.range (sa_cons (se_len rfl B.len (se_var 4)) sa_nil)) (sg_name 5 scN) (sb_cons (ss_set 6 scN (se_split " " (se_ix rfl (se_var 4) (se_var 5))))
    (sb_one (ss_if (sw_and (cmp_inU (se_ix rfl (se_var 6) se_int) (se_tup (sa_cons se_str (sa_cons se_str sa_nil)))).st (sw_and (cmp_eq hu64 (se_len rfl B.len (se_var 6)) se_int).st (sw_and1 (cmp_eq hu64 (se_var 3) (se_lst sa_nil)).st))).st (sb_cons (ss_if (cmp_eq hu64 (se_ix rfl (se_var 6) se_int) se_str).st (sb_one (ss_expr (se_meth (i := 2) PySem.F.slot_list_append PySem.F.type_list_append mt_append ms_app (sa_cons (se_len rfl B.len (se_var 1)) sa_nil)))) sb_nil)
    (sb_one (ss_expr (se_meth (i := 1) PySem.F.slot_list_append PySem.F.type_list_append mt_append ms_app (sa_cons (se_callV tk (o_number_of.fn hr (by decide)) (sa_cons (se_ix rfl (se_var 6) se_int) (sa_cons (se_var 5) sa_nil))) sa_nil))))) (sb_one (ss_if (sw_and (cmp_eq hu64 (se_ix rfl (se_var 6) se_int) se_str).st (sw_and1 (cmp_eq hu64 (se_len rfl B.len (se_var 6)) se_int).st)).st (sb_one (ss_expr (se_meth (i := 3) PySem.F.slot_list_append PySem.F.type_list_append mt_append ms_app (sa_cons (se_tuple rfl B.tuple (se_lc 7 scN rfl (si_list rfl (se_sl rfl (se_var 6) (so_so se_int) so_no)) (blkOk_by (by kernel_rfl)) (fun _ _ _ _ _ => sts_nil) (fun _ _ _ _ _ => (se_callV takesN (o_number_of.fn hr (by decide)) (sa_cons (se_var 7) (sa_cons (se_var 5) sa_nil)))))) sa_nil)))) (sb_one ss_never)))))))
    (sb_one (ss_ret (se_make (o_Net_init.fn hr (by decide)) (sa_cons (se_var 1) (sa_cons (se_var 2) (sa_cons (se_var 3) sa_nil))) hna_Net_init)))))))))
theorem ok_Ldice (d : Df K mg "_law_dice" s_Ldice ["_law_script"]) (B : Bi mg) (G : Gx K mg c0) : Okd P w K mg base (tabs K c0) 1 "_law_dice" S_Ldice := by
  refine d.ok sc_Ldice w_Ldice (fun _ => rfl) (fun j h => by first | (have h2 : (none : Option Nat) = some j := h; cases h2) | (have h2 : (some 0 : Option Nat) = some j := h; cases h2; decide) | (have h2 : (some 1 : Option Nat) = some j := h; cases h2; decide)) (fun a h => sem_Ldice a h) (fun f cdv A outer s H E hr => by
    have tk := L2N.takes_of (X := cxOf (L2N.CX P w) P w K mg base ["_law_script", "_law_mixed", "_law_cell"] "_law_dice" (defScope s_Ldice) f cdv A outer s H E) rfl rfl rfl rfl
    have hp := passes_of (X := cxOf (L2N.CX P w) P w K mg base ["_law_script", "_law_mixed", "_law_cell"] "_law_dice" (defScope s_Ldice) f cdv A outer s H E) rfl
    have hu1 := hu_le hr (n := 1) (by decide)
    have hu64 := hu_le hr (n := 64) (by decide)
    have hu65 := hu_le hr (n := 65) (by decide)
    have scN := sc_Ldice.nd
    exact (sb_cons (ss_set 1 scN se_int)
    (sb_cons (ss_for hp rfl (si_list rfl (se_var 0)) (sg_name 2 scN) (sb_one (ss_set 1 scN (se_mod (se_add rfl (se_add rfl (se_mul (se_var 1) se_int) (se_mul (se_mod (se_var 2) se_int) se_int)) se_int) se_int))))
    (sb_one (ss_ret (se_lst (sa_cons (se_var 0) (sa_cons se_int (sa_cons (se_mul (se_var 1) (se_int1 B.int (cmp_gt (se_len rfl B.len (se_var 0)) se_int).se)) (sa_cons se_int sa_nil))))))))))
theorem ok_Lnext (d : Df K mg "_law_next" s_Lnext ["_law_dice_here", "_law_many"]) (B : Bi mg) (G : Gx K mg c0) : Okd P w K mg base (tabs K c0) 1 "_law_next" S_Lnext := by
  refine d.ok sc_Lnext w_Lnext (fun _ => rfl) (fun j h => by first | (have h2 : (none : Option Nat) = some j := h; cases h2) | (have h2 : (some 0 : Option Nat) = some j := h; cases h2; decide) | (have h2 : (some 1 : Option Nat) = some j := h; cases h2; decide)) (fun a h => sem_Lnext a h) (fun f cdv A outer s H E hr => by
    have tk := L2N.takes_of (X := cxOf (L2N.CX P w) P w K mg base ["_law_dice_here", "_law_many", "_law_found", "_law_cell"] "_law_next" (defScope s_Lnext) f cdv A outer s H E) rfl rfl rfl rfl
    have hp := passes_of (X := cxOf (L2N.CX P w) P w K mg base ["_law_dice_here", "_law_many", "_law_found", "_law_cell"] "_law_next" (defScope s_Lnext) f cdv A outer s H E) rfl
    have hu1 := hu_le hr (n := 1) (by decide)
    have hu64 := hu_le hr (n := 64) (by decide)
    have hu65 := hu_le hr (n := 65) (by decide)
    have scN := sc_Lnext.nd
    exact (sb_cons (ss_if (cmp_gt (se_ix rfl (se_var 0) se_int) se_int).st (sb_cons (ss_set 2 scN (se_mod (se_ix rfl (se_var 0) se_int) (se_var 1)))
    (sb_cons (ss_lput 0 (se_div (se_ix rfl (se_var 0) se_int) (se_var 1)) se_int)
    (sb_one (ss_ret (se_var 2))))) sb_nil)
    (sb_cons (ss_lput 0 (se_add rfl (se_ix rfl (se_var 0) se_int) se_int) se_int)
    (sb_cons (ss_if (cmp_le (se_ix rfl (se_var 0) se_int) (se_len rfl B.len (se_ix rfl (se_var 0) se_int))).st (sb_cons (ss_set 3 scN (se_ix rfl (se_ix rfl (se_var 0) se_int) (se_sub (se_ix rfl (se_var 0) se_int) se_int)))
    (sb_cons (ss_lput 0 (se_ifE (cmp_ge (se_var 3) (se_pow se_int se_int)).st (se_div (se_var 3) (se_var 1)) se_int) se_int)
    (sb_one (ss_ret (se_mod (se_var 3) (se_var 1)))))) sb_nil)
    (sb_cons (ss_lput 0 (se_mod (se_mul (se_ix rfl (se_var 0) se_int) se_int) se_int) se_int)
    (sb_one (ss_ret (se_mod (se_div (se_ix rfl (se_var 0) se_int) se_int) (se_var 1)))))))))
theorem ok_Lnet (d : Df K mg "_law_net" s_Lnet ["_law_d", "_law_places", "_law_lines"]) (B : Bi mg) (G : Gx K mg c0) (o_Lnext : Okd P w K mg base (tabs K c0) 1 "_law_next" S_Lnext) : Okd P w K mg base (tabs K c0) 2 "_law_net" S_Lnet := by
  refine d.ok sc_Lnet w_Lnet (fun _ => rfl) (fun j h => by first | (have h2 : (none : Option Nat) = some j := h; cases h2) | (have h2 : (some 0 : Option Nat) = some j := h; cases h2; decide) | (have h2 : (some 1 : Option Nat) = some j := h; cases h2; decide)) (fun a h => sem_Lnet a h) (fun f cdv A outer s H E hr => by
    have tk := L2N.takes_of (X := cxOf (L2N.CX P w) P w K mg base ["_law_d", "_law_places", "_law_lines", "_law_many", "_law_needs", "_law_sources", "_law_rows", "_law_k", "_law_place", "_law_one", "_law_other", "_law_limit"] "_law_net" (defScope s_Lnet) f cdv A outer s H E) rfl rfl rfl rfl
    have hp := passes_of (X := cxOf (L2N.CX P w) P w K mg base ["_law_d", "_law_places", "_law_lines", "_law_many", "_law_needs", "_law_sources", "_law_rows", "_law_k", "_law_place", "_law_one", "_law_other", "_law_limit"] "_law_net" (defScope s_Lnet) f cdv A outer s H E) rfl
    have hu1 := hu_le hr (n := 1) (by decide)
    have hu64 := hu_le hr (n := 64) (by decide)
    have hu65 := hu_le hr (n := 65) (by decide)
    have scN := sc_Lnet.nd
    exact (sb_cons (ss_set 3 scN (se_add rfl se_int (se_callB' (i := 0) tk (o_Lnext.fn hr (by decide)) (sa_cons (se_var 1) sa_nil))))
    (sb_cons (ss_setLc 4 8 scN rfl (si_range1 B.range (sa_cons (se_var 3) sa_nil)) (blkOk_by (by kernel_rfl)) (fun _ _ _ _ _ => sts_nil) (fun _ _ _ _ _ => (se_callB' (i := 0) takesN (o_Lnext.fn hr (by decide)) (sa_cons se_int sa_nil))))
    (sb_cons (ss_if (cmp_eq hu64 (se_callB' (i := 0) tk (o_Lnext.fn hr (by decide)) (sa_cons se_int sa_nil)) se_int).st (sb_one (ss_setLc 4 8 scN rfl (si_range1 B.range (sa_cons (se_var 3) sa_nil)) (blkOk_by (by kernel_rfl)) (fun _ _ _ _ _ => sts_nil) (fun _ _ _ _ _ => (se_callB' (i := 0) takesN (o_Lnext.fn hr (by decide)) (sa_cons (se_add rfl (se_pow se_int se_int) se_int) sa_nil))))) sb_nil)
    (sb_cons (ss_set 5 scN (se_sl rfl (se_lst (sa_cons (se_callB' (i := 0) tk (o_Lnext.fn hr (by decide)) (sa_cons (se_var 3) sa_nil)) sa_nil)) so_no (so_so (se_callB' (i := 0) tk (o_Lnext.fn hr (by decide)) (sa_cons se_int sa_nil)))))
    (sb_cons (ss_if (sw_and (cmp_gt (se_var 3) se_int).st (sw_and (cmp_ne hu64 (se_var 5) (se_lst sa_nil)).st (sw_and1 (cmp_eq hu64 (se_callB' (i := 0) tk (o_Lnext.fn hr (by decide)) (sa_cons se_int sa_nil)) se_int).st))).st (sb_one (ss_expr (se_meth (i := 5) PySem.F.slot_list_append PySem.F.type_list_append mt_append ms_app (sa_cons (se_mod (se_add rfl (se_add rfl (se_ix rfl (se_var 5) se_int) se_int) (se_callB' (i := 0) tk (o_Lnext.fn hr (by decide)) (sa_cons (se_sub (se_var 3) se_int) sa_nil))) (se_var 3)) sa_nil)))) sb_nil)
    (sb_cons (ss_if (sw_and (cmp_ne hu64 (se_var 5) (se_lst sa_nil)).st (sw_and1 (cmp_eq hu64 (se_callB' (i := 0) tk (o_Lnext.fn hr (by decide)) (sa_cons se_int sa_nil)) se_int).st)).st (sb_one (ss_set 5 scN (se_add rfl (se_var 5) (se_lc 8 scN rfl (si_range1 B.range (sa_cons (se_var 3) sa_nil)) (blkOk_by (by kernel_rfl)) (fun _ _ _ _ _ => (sts_one (sw_and (cmp_notInU (se_var 8) (se_var 5)).st (sw_and1 (cmp_eq hu64 (se_callB' (i := 0) takesN (o_Lnext.fn hr (by decide)) (sa_cons se_int sa_nil)) se_int).st)).st)) (fun _ _ _ _ _ => (se_var 8)))))) sb_nil)
    (sb_cons (ss_set 6 scN (se_lst sa_nil))
    (sb_cons (ss_if (cmp_gt (se_var 3) se_int).st (sb_one (ss_for hp rfl (si_range1 B.range (sa_cons (se_callB' (i := 0) tk (o_Lnext.fn hr (by decide)) (sa_cons (se_add rfl (se_var 2) se_int) sa_nil)) sa_nil)) (sg_name 7 scN) (sb_cons (ss_set 9 scN (se_callB' (i := 0) tk (o_Lnext.fn hr (by decide)) (sa_cons (se_var 3) sa_nil)))
    (sb_cons (ss_set 10 scN (se_mod (se_add rfl (se_add rfl (se_var 9) se_int) (se_callB' (i := 0) tk (o_Lnext.fn hr (by decide)) (sa_cons (se_sub (se_var 3) se_int) sa_nil))) (se_var 3)))
    (sb_cons (ss_set 11 scN (se_ix rfl (se_lst (sa_cons (se_add rfl se_int (se_callB' (i := 0) tk (o_Lnext.fn hr (by decide)) (sa_cons se_int sa_nil))) (sa_cons (se_callB' (i := 0) tk (o_Lnext.fn hr (by decide)) (sa_cons se_int sa_nil)) (sa_cons (se_pow se_int se_int) sa_nil)))) (se_callB' (i := 0) tk (o_Lnext.fn hr (by decide)) (sa_cons se_int sa_nil))))
    (sb_one (ss_expr (se_meth (i := 6) PySem.F.slot_list_append PySem.F.type_list_append mt_append ms_app (sa_cons (se_tup (sa_cons (se_var 9) (sa_cons (se_var 10) (sa_cons (se_var 11) sa_nil)))) sa_nil))))))))) sb_nil)
    (sb_one (ss_ret (se_tup (sa_cons (se_var 4) (sa_cons (se_var 5) (sa_cons (se_var 6) sa_nil)))))))))))))))
theorem ok_Llike (d : Df K mg "_law_like" s_Llike ["_law_found", "_law_due"]) (B : Bi mg) (G : Gx K mg c0) : ∀ n : Nat, Okd P w K mg base (tabs K c0) (n + 1) "_law_like" (S_LlikeN n)
  | 0 => d.ok sc_Llike wNever (fun _ => rfl) (fun j h => by first | (have h2 : (none : Option Nat) = some j := h; cases h2) | (have h2 : (some 0 : Option Nat) = some j := h; cases h2; decide) | (have h2 : (some 1 : Option Nat) = some j := h; cases h2; decide)) (fun a h => by cases a <;> cases h) (fun f cdv A outer s H E hr => sb_never)
  | n + 1 => by
    have o_Llike := ok_Llike d B G n
    exact d.ok sc_Llike (w_Llike (S_LlikeN n)) (fun _ => rfl) (fun j h => by first | (have h2 : (none : Option Nat) = some j := h; cases h2) | (have h2 : (some 0 : Option Nat) = some j := h; cases h2; decide) | (have h2 : (some 1 : Option Nat) = some j := h; cases h2; decide)) (fun a h => sem_Llike n a h) (fun f cdv A outer s H E hr => by
    have tk := L2N.takes_of (X := cxOf (L2N.CX P w) P w K mg base ["_law_found", "_law_due", "_law_k"] "_law_like" (defScope s_Llike) f cdv A outer s H E) rfl rfl rfl rfl
    have hp := passes_of (X := cxOf (L2N.CX P w) P w K mg base ["_law_found", "_law_due", "_law_k"] "_law_like" (defScope s_Llike) f cdv A outer s H E) rfl
    have hu1 := hu_le hr (n := 1) (by decide)
    have hu64 := hu_le hr (n := 64) (by decide)
    have hu65 := hu_le hr (n := 65) (by decide)
    have scN := sc_Llike.nd
    exact (sb_cons (ss_if (st_val (se_is .str rfl B.isinstance B.str (se_var 1))) (sb_one (ss_ret (se_and (se_is .str rfl B.isinstance B.str (se_var 0)) (se_one (cmp_eq hu64 (se_var 0) (se_var 1)).se)))) sb_nil)
    (sb_cons (ss_if (st_val (se_is .int rfl B.isinstance B.int (se_var 1))) (sb_one (ss_ret (se_and (se_is .int rfl B.isinstance B.int (se_var 0)) (se_and (se_not (se_is .bool rfl B.isinstance B.bool (se_var 0))) (se_one (cmp_eq hu64 (se_var 0) (se_var 1)).se))))) sb_nil)
    (sb_cons (ss_if (cmp_isN (se_var 1) se_non).st (sb_one (ss_ret (cmp_isN (se_var 0) se_non).se)) sb_nil)
    (sb_cons (ss_if (sw_or (cmp_ne hu64 (se_is .tuple rfl B.isinstance B.tuple (se_var 1)) (se_is .tuple rfl B.isinstance B.tuple (se_var 0))).st (sw_or1 (cmp_ne hu64 (se_is .list rfl B.isinstance B.list (se_var 1)) (se_is .list rfl B.isinstance B.list (se_var 0))).st)).st (sb_one (ss_ret se_bl)) sb_nil)
    (sb_cons (ss_if (cmp_ne hu64 (se_len rfl B.len (se_var 0)) (se_len rfl B.len (se_var 1))).st (sb_one (ss_ret se_bl)) sb_nil)
    (sb_cons (ss_for hp rfl (si_range1 B.range (sa_cons (se_len rfl B.len (se_var 1)) sa_nil)) (sg_name 2 scN) (sb_one (ss_if (st_not (st_val (se_callV tk (o_Llike.fn hr (Nat.le_refl _)) (sa_cons (se_ix rfl (se_var 0) (se_var 2)) (sa_cons (se_ix rfl (se_var 1) (se_var 2)) sa_nil))))) (sb_one (ss_ret se_bl)) sb_nil)))
    (sb_one (ss_ret se_bl)))))))))
theorem ok_Ltext (d : Df K mg "_law_text" s_Ltext ["_law_net_here"]) (B : Bi mg) (G : Gx K mg c0) : Okd P w K mg base (tabs K c0) 1 "_law_text" S_Ltext := by
  refine d.ok sc_Ltext w_Ltext (fun _ => rfl) (fun j h => by first | (have h2 : (none : Option Nat) = some j := h; cases h2) | (have h2 : (some 0 : Option Nat) = some j := h; cases h2; decide) | (have h2 : (some 1 : Option Nat) = some j := h; cases h2; decide)) (fun a h => sem_Ltext a h) (fun f cdv A outer s H E hr => by
    have tk := L2N.takes_of (X := cxOf (L2N.CX P w) P w K mg base ["_law_net_here", "_law_rows", "_law_place", "_law_line", "_law_number"] "_law_text" (defScope s_Ltext) f cdv A outer s H E) rfl rfl rfl rfl
    have hp := passes_of (X := cxOf (L2N.CX P w) P w K mg base ["_law_net_here", "_law_rows", "_law_place", "_law_line", "_law_number"] "_law_text" (defScope s_Ltext) f cdv A outer s H E) rfl
    have hu1 := hu_le hr (n := 1) (by decide)
    have hu64 := hu_le hr (n := 64) (by decide)
    have hu65 := hu_le hr (n := 65) (by decide)
    have scN := sc_Ltext.nd
    exact (sb_cons (ss_set 1 scN (se_lst sa_nil))
    (sb_cons (ss_for hp rfl (si_range1 B.range (sa_cons (se_len rfl B.len (se_ix rfl (se_var 0) se_int)) sa_nil)) (sg_name 2 scN) (sb_one (ss_expr (se_meth (i := 1) PySem.F.slot_list_append PySem.F.type_list_append mt_append ms_app (sa_cons (se_add rfl (se_ix rfl (se_lst (sa_cons se_str (sa_cons se_str sa_nil))) (se_int1 B.int (cmp_inU (se_var 2) (se_ix rfl (se_var 0) se_int)).se)) (se_str1 B.str (se_ix rfl (se_ix rfl (se_var 0) se_int) (se_var 2)))) sa_nil)))))
    (sb_one (ss_ret (se_join "\n" rfl (se_add rfl (se_var 1) (se_lc 3 scN rfl (si_list rfl (se_ix rfl (se_var 0) se_int)) (blkOk_by (by kernel_rfl)) (fun _ _ _ _ _ => sts_nil) (fun _ _ _ _ _ => (se_add rfl se_str (se_join " " rfl (se_lc 4 scN rfl (si_list rfl (se_var 3)) (blkOk_by (by kernel_rfl)) (fun _ _ _ _ _ => sts_nil) (fun _ _ _ _ _ => (se_str1 B.str (se_var 4)))))))))))))))
theorem ok_law {f : Addr} {fd : FuncData} (F : Fun K "law" "law" s_law f fd) (B : Bi mg) (G : Gx K mg c0) (o_written : Okd P w K mg base (tabs K c0) 2 "written" S_written) (o_Llike : Okd P w K mg base (tabs K c0) 5 "_law_like" S_Llike) (o_Net_sources : Okm P w K mg base (tabs K c0) 1 0 "sources" S_Net_sources) (o_Net_lines : Okm P w K mg base (tabs K c0) 1 0 "lines" S_Net_lines) (o_Net_places : Okm P w K mg base (tabs K c0) 1 0 "places" S_Net_places) (o_read : Okd P w K mg base (tabs K c0) 3 "read" S_read) (o_Net_init : Oki P w K mg base (tabs K c0) 1 0 "Net" S_Net_init) (o_Ltext : Okd P w K mg base (tabs K c0) 1 "_law_text" S_Ltext) (o_Lnet : Okd P w K mg base (tabs K c0) 2 "_law_net" S_Lnet) (o_Ldice : Okd P w K mg base (tabs K c0) 1 "_law_dice" S_Ldice) : FnOk P w K mg base (L2N.CX P w) 6 f fd ["_law_script"] (spOf (tabs K c0) S_law) := by
  refine okF F sc_law w_law (fun _ => rfl) (fun j h => by first | (have h2 : (none : Option Nat) = some j := h; cases h2) | (have h2 : (some 0 : Option Nat) = some j := h; cases h2; decide) | (have h2 : (some 1 : Option Nat) = some j := h; cases h2; decide)) (fun cdv A outer s H E hr => by
    have tk := L2N.takes_of (X := cxOf (L2N.CX P w) P w K mg base ["_law_script", "_law_d", "_law_one", "_law_other", "_law_rows", "_law_text_here", "_law_found", "_law_net_here", "_law_due"] "law" (defScope s_law) f cdv A outer s H E) rfl rfl rfl rfl
    have hp := passes_of (X := cxOf (L2N.CX P w) P w K mg base ["_law_script", "_law_d", "_law_one", "_law_other", "_law_rows", "_law_text_here", "_law_found", "_law_net_here", "_law_due"] "law" (defScope s_law) f cdv A outer s H E) rfl
    have hu1 := hu_le hr (n := 1) (by decide)
    have hu64 := hu_le hr (n := 64) (by decide)
    have hu65 := hu_le hr (n := 65) (by decide)
    have scN := sc_law.nd
    exact (sb_cons (ss_set 1 scN (se_callV tk (o_Ldice.fn hr (by decide)) (sa_cons (se_var 0) sa_nil)))
    (sb_cons (ss_set 2 scN (se_callB' (i := 1) tk (o_Lnet.fn hr (by decide)) (sa_cons se_int (sa_cons se_int sa_nil))))
    (sb_cons (ss_set 3 scN (se_callB' (i := 1) tk (o_Lnet.fn hr (by decide)) (sa_cons se_int (sa_cons se_int sa_nil))))
    (sb_cons (ss_for hp rfl (si_list rfl (se_lst (sa_cons (se_var 2) (sa_cons (se_var 3) (sa_cons (se_var 2) sa_nil))))) (sg_name 4 scN) (sb_cons (ss_set 5 scN (se_callV tk (o_Ltext.fn hr (by decide)) (sa_cons (se_var 4) sa_nil)))
    (sb_cons (ss_set 6 scN (se_callV tk (o_written.fn hr (by decide)) (sa_cons (se_make (o_Net_init.fn hr (by decide)) (sa_cons (se_ix rfl (se_var 4) se_int) (sa_cons (se_ix rfl (se_var 4) se_int) (sa_cons (se_ix rfl (se_var 4) se_int) sa_nil))) hna_Net_init) sa_nil)))
    (sb_cons (ss_if (sw_or (st_not (st_val (se_is .str rfl B.isinstance B.str (se_var 6)))) (sw_or1 (cmp_ne hu64 (se_var 6) (se_var 5)).st)).st (sb_one (ss_ret se_bl)) sb_nil)
    (sb_cons (ss_set 7 scN (se_callV tk (o_read.fn hr (by decide)) (sa_cons (se_var 5) sa_nil)))
    (sb_cons (ss_set 8 scN (se_lst (sa_cons (se_lrange1 rfl B.list B.range (se_len rfl B.len (se_ix rfl (se_var 4) se_int))) (sa_cons (se_ix rfl (se_var 4) se_int) (sa_cons (se_sorted rfl B.sorted (se_ix rfl (se_var 4) se_int)) sa_nil)))))
    (sb_cons (ss_if (st_not (st_val (se_callV tk (o_Llike.fn hr (by decide)) (sa_cons (se_lst (sa_cons (se_methV0 G.k0 rfl (o_Net_places.fn hr (by decide)) (se_var 7)) (sa_cons (se_methV0 G.k0 rfl (o_Net_lines.fn hr (by decide)) (se_var 7)) (sa_cons (se_methV0 G.k0 rfl (o_Net_sources.fn hr (by decide)) (se_var 7)) sa_nil)))) (sa_cons (se_var 8) sa_nil))))) (sb_one (ss_ret se_bl)) sb_nil)
    (sb_one (ss_if (cmp_ne hu64 (se_callV tk (o_written.fn hr (by decide)) (sa_cons (se_var 7) sa_nil)) (se_var 5)).st (sb_one (ss_ret se_bl)) sb_nil)))))))))
    (sb_one (ss_ret se_bl))))))) (fun a h => sem_law a h)
end
theorem all_mk {P : Program} {w : World} {K : PySem.W.Frag} {h : Heap} {mg : Str → Option Value} {fa c0 f0 f1 f2 f3 f4 f5 f6 f7 f8 f9 f10 f11 f12 : Addr} (X : K.In h) (G : h.Ns mainGlobals mg) (hfa : mg "law" = some (.ref fa))
    {od0 an0 od1 an1 od2 an2 od3 an3 od4 an4 od5 an5 od6 an6 od7 an7 od8 an8 od9 an9 od10 an10 od11 an11 od12 an12 : Option Addr} {sl0 sl1 sl2 sl3 sl4 sl5 sl6 sl7 sl8 sl9 sl10 sl11 sl12 : Array (Option Value)} {oc0 kV0 dc0 pm0 cd0 ct0 oc1 kV1 dc1 pm1 cd1 ct1 oc2 kV2 dc2 pm2 cd2 ct2 oc3 kV3 dc3 pm3 cd3 ct3 oc4 kV4 dc4 pm4 cd4 ct4 oc5 kV5 dc5 pm5 cd5 ct5 oc6 kV6 dc6 pm6 cd6 ct6 oc7 kV7 dc7 pm7 cd7 ct7 oc8 kV8 dc8 pm8 cd8 ct8 oc9 kV9 dc9 pm9 cd9 ct9 oc10 kV10 dc10 pm10 cd10 ct10 oc11 kV11 dc11 pm11 cd11 ct11 oc12 kV12 dc12 pm12 cd12 ct12 : Value} {tMOST_PLACES tMOST_LINES tMOST_NUMBER tMOST_FIGURES tFIGURES : Tok}
    (aC0 : PySem.W.nsIn K mainGlobals "Net" = some (some (.ref c0)))
    (pg0 : PySem.W.plainGet K c0 Str.empty = true)
    (hd0 : PySem.W.hasDictIn K c0 = true)
    (po0 : PySem.W.plainOver K c0 = true)
    (sa0 : PySem.W.findIn K (.ref c0) "__setattr__" = some (some (.builtin "object.__setattr__")))
    (mk0 : PySem.W.makesIn K c0 = true)
    (kc0 : PySem.W.keepIn K (.ref c0) = true)
    (n0needs : PySem.W.findIn K (.ref c0) "needs" = some none)
    (n0roots : PySem.W.findIn K (.ref c0) "roots" = some none)
    (n0wires : PySem.W.findIn K (.ref c0) "wires" = some none)
    (gMOST_PLACES : PySem.W.nsIn K mainGlobals "MOST_PLACES" = some (some (.int 10 tMOST_PLACES)))
    (gMOST_LINES : PySem.W.nsIn K mainGlobals "MOST_LINES" = some (some (.int 10 tMOST_LINES)))
    (gMOST_NUMBER : PySem.W.nsIn K mainGlobals "MOST_NUMBER" = some (some (.int 1000000 tMOST_NUMBER)))
    (gMOST_FIGURES : PySem.W.nsIn K mainGlobals "MOST_FIGURES" = some (some (.int 7 tMOST_FIGURES)))
    (gFIGURES : PySem.W.nsIn K mainGlobals "FIGURES" = some (some (.str "0123456789" tFIGURES)))
    (blen : PySem.W.nsIn K mainGlobals "len" = some none)
    (brange : PySem.W.nsIn K mainGlobals "range" = some none)
    (blist : PySem.W.nsIn K mainGlobals "list" = some none)
    (btuple : PySem.W.nsIn K mainGlobals "tuple" = some none)
    (bsorted : PySem.W.nsIn K mainGlobals "sorted" = some none)
    (bsum : PySem.W.nsIn K mainGlobals "sum" = some none)
    (bint : PySem.W.nsIn K mainGlobals "int" = some none)
    (bstr : PySem.W.nsIn K mainGlobals "str" = some none)
    (bmax : PySem.W.nsIn K mainGlobals "max" = some none)
    (bmin : PySem.W.nsIn K mainGlobals "min" = some none)
    (bset : PySem.W.nsIn K mainGlobals "set" = some none)
    (bdict : PySem.W.nsIn K mainGlobals "dict" = some none)
    (bisinstance : PySem.W.nsIn K mainGlobals "isinstance" = some none)
    (bbool : PySem.W.nsIn K mainGlobals "bool" = some none)
    (bValueError : PySem.W.nsIn K mainGlobals "ValueError" = some none)
    (a0 : PySem.W.findIn K (.ref c0) "__init__" = some (some (.ref f0)))
    (i0 : PySem.W.isFn K (.ref f0) = true)
    (l0 : K.lookup f0 = some ⟨oc0, od0, .func (PySem.W.fnOf "__init__" "Net.__init__" (defArgs s_Net_init) (defBody s_Net_init) (defScope s_Net_init) .none kV0 dc0 pm0 an0 cd0 ct0), sl0⟩)
    (c0d : PySem.W.codeIn K cd0 "Net.__init__" = true)
    (k0 : PySem.W.keepIn K (.ref f0) = true)
    (a1 : PySem.W.findIn K (.ref c0) "places" = some (some (.ref f1)))
    (i1 : PySem.W.isFn K (.ref f1) = true)
    (l1 : K.lookup f1 = some ⟨oc1, od1, .func (PySem.W.fnOf "places" "Net.places" (defArgs s_Net_places) (defBody s_Net_places) (defScope s_Net_places) .none kV1 dc1 pm1 an1 cd1 ct1), sl1⟩)
    (c1d : PySem.W.codeIn K cd1 "Net.places" = true)
    (k1 : PySem.W.keepIn K (.ref f1) = true)
    (a2 : PySem.W.findIn K (.ref c0) "lines" = some (some (.ref f2)))
    (i2 : PySem.W.isFn K (.ref f2) = true)
    (l2 : K.lookup f2 = some ⟨oc2, od2, .func (PySem.W.fnOf "lines" "Net.lines" (defArgs s_Net_lines) (defBody s_Net_lines) (defScope s_Net_lines) .none kV2 dc2 pm2 an2 cd2 ct2), sl2⟩)
    (c2d : PySem.W.codeIn K cd2 "Net.lines" = true)
    (k2 : PySem.W.keepIn K (.ref f2) = true)
    (a3 : PySem.W.findIn K (.ref c0) "sources" = some (some (.ref f3)))
    (i3 : PySem.W.isFn K (.ref f3) = true)
    (l3 : K.lookup f3 = some ⟨oc3, od3, .func (PySem.W.fnOf "sources" "Net.sources" (defArgs s_Net_sources) (defBody s_Net_sources) (defScope s_Net_sources) .none kV3 dc3 pm3 an3 cd3 ct3), sl3⟩)
    (c3d : PySem.W.codeIn K cd3 "Net.sources" = true)
    (k3 : PySem.W.keepIn K (.ref f3) = true)
    (a4 : PySem.W.nsIn K mainGlobals "written" = some (some (.ref f4)))
    (l4 : K.lookup f4 = some ⟨oc4, od4, .func (PySem.W.fnOf "written" "written" (defArgs s_written) (defBody s_written) (defScope s_written) .none kV4 dc4 pm4 an4 cd4 ct4), sl4⟩)
    (c4d : PySem.W.codeIn K cd4 "written" = true)
    (k4 : PySem.W.keepIn K (.ref f4) = true)
    (a5 : PySem.W.nsIn K mainGlobals "number_of" = some (some (.ref f5)))
    (l5 : K.lookup f5 = some ⟨oc5, od5, .func (PySem.W.fnOf "number_of" "number_of" (defArgs s_number_of) (defBody s_number_of) (defScope s_number_of) .none kV5 dc5 pm5 an5 cd5 ct5), sl5⟩)
    (c5d : PySem.W.codeIn K cd5 "number_of" = true)
    (k5 : PySem.W.keepIn K (.ref f5) = true)
    (a6 : PySem.W.nsIn K mainGlobals "read" = some (some (.ref f6)))
    (l6 : K.lookup f6 = some ⟨oc6, od6, .func (PySem.W.fnOf "read" "read" (defArgs s_read) (defBody s_read) (defScope s_read) .none kV6 dc6 pm6 an6 cd6 ct6), sl6⟩)
    (c6d : PySem.W.codeIn K cd6 "read" = true)
    (k6 : PySem.W.keepIn K (.ref f6) = true)
    (a7 : PySem.W.nsIn K mainGlobals "_law_dice" = some (some (.ref f7)))
    (l7 : K.lookup f7 = some ⟨oc7, od7, .func (PySem.W.fnOf "_law_dice" "_law_dice" (defArgs s_Ldice) (defBody s_Ldice) (defScope s_Ldice) .none kV7 dc7 pm7 an7 cd7 ct7), sl7⟩)
    (c7d : PySem.W.codeIn K cd7 "_law_dice" = true)
    (k7 : PySem.W.keepIn K (.ref f7) = true)
    (a8 : PySem.W.nsIn K mainGlobals "_law_next" = some (some (.ref f8)))
    (l8 : K.lookup f8 = some ⟨oc8, od8, .func (PySem.W.fnOf "_law_next" "_law_next" (defArgs s_Lnext) (defBody s_Lnext) (defScope s_Lnext) .none kV8 dc8 pm8 an8 cd8 ct8), sl8⟩)
    (c8d : PySem.W.codeIn K cd8 "_law_next" = true)
    (k8 : PySem.W.keepIn K (.ref f8) = true)
    (a9 : PySem.W.nsIn K mainGlobals "_law_net" = some (some (.ref f9)))
    (l9 : K.lookup f9 = some ⟨oc9, od9, .func (PySem.W.fnOf "_law_net" "_law_net" (defArgs s_Lnet) (defBody s_Lnet) (defScope s_Lnet) .none kV9 dc9 pm9 an9 cd9 ct9), sl9⟩)
    (c9d : PySem.W.codeIn K cd9 "_law_net" = true)
    (k9 : PySem.W.keepIn K (.ref f9) = true)
    (a10 : PySem.W.nsIn K mainGlobals "_law_like" = some (some (.ref f10)))
    (l10 : K.lookup f10 = some ⟨oc10, od10, .func (PySem.W.fnOf "_law_like" "_law_like" (defArgs s_Llike) (defBody s_Llike) (defScope s_Llike) .none kV10 dc10 pm10 an10 cd10 ct10), sl10⟩)
    (c10d : PySem.W.codeIn K cd10 "_law_like" = true)
    (k10 : PySem.W.keepIn K (.ref f10) = true)
    (a11 : PySem.W.nsIn K mainGlobals "_law_text" = some (some (.ref f11)))
    (l11 : K.lookup f11 = some ⟨oc11, od11, .func (PySem.W.fnOf "_law_text" "_law_text" (defArgs s_Ltext) (defBody s_Ltext) (defScope s_Ltext) .none kV11 dc11 pm11 an11 cd11 ct11), sl11⟩)
    (c11d : PySem.W.codeIn K cd11 "_law_text" = true)
    (k11 : PySem.W.keepIn K (.ref f11) = true)
    (a12 : PySem.W.nsIn K mainGlobals "law" = some (some (.ref f12)))
    (l12 : K.lookup f12 = some ⟨oc12, od12, .func (PySem.W.fnOf "law" "law" (defArgs s_law) (defBody s_law) (defScope s_law) .none kV12 dc12 pm12 an12 cd12 ct12), sl12⟩)
    (c12d : PySem.W.codeIn K cd12 "law" = true)
    (k12 : PySem.W.keepIn K (.ref f12) = true)
    : ∃ fd : FuncData, (∀ (s : Shared) (v : Value), BindsTo s fd ⟨[v], []⟩ [("_law_script", v)]) ∧ ∀ base : Heap, K.In base → base.Ns mainGlobals mg → FnOk P w K mg base (L2N.CX P w) 6 fa fd ["_law_script"] (spLawK 63 K) := by
  have B : Bi mg := ⟨PySem.W.mg_none_of X G blen, PySem.W.mg_none_of X G brange, PySem.W.mg_none_of X G blist, PySem.W.mg_none_of X G btuple, PySem.W.mg_none_of X G bsorted, PySem.W.mg_none_of X G bsum, PySem.W.mg_none_of X G bint, PySem.W.mg_none_of X G bstr, PySem.W.mg_none_of X G bmax, PySem.W.mg_none_of X G bmin, PySem.W.mg_none_of X G bset, PySem.W.mg_none_of X G bdict, PySem.W.mg_none_of X G bisinstance, PySem.W.mg_none_of X G bbool, PySem.W.mg_none_of X G bValueError⟩
  have kk0 : ∀ f ∈ fldN 0, NoAttr K c0 f := by
      intro f hf
      rcases List.mem_cons.mp hf with e | hf
      · subst e; exact n0needs
      rcases List.mem_cons.mp hf with e | hf
      · subst e; exact n0roots
      rcases List.mem_cons.mp hf with e | hf
      · subst e; exact n0wires
      cases hf
  have GG : Gx K mg c0 := ⟨⟨⟨pg0, hd0, po0, sa0⟩, kk0⟩, ⟨_, PySem.W.mg_of X G gMOST_PLACES⟩, ⟨_, PySem.W.mg_of X G gMOST_LINES⟩, ⟨_, PySem.W.mg_of X G gMOST_NUMBER⟩, ⟨_, PySem.W.mg_of X G gMOST_FIGURES⟩, ⟨_, PySem.W.mg_of X G gFIGURES⟩, trivial⟩
  have F0 := fun_mk (st := s_Net_init) l0 c0d k0
  have b0 := F0.binds (ps := ["self", "needs", "sources", "lines"]) fun _ _ _ _ _ _ us hl => match us, hl with | [_, _, _, _], _ => rfl
  have d0 : Di K mg (tabs K c0) 0 "Net" "Net.__init__" s_Net_init ["self", "needs", "sources", "lines"] := ⟨f0, _, F0, ⟨mk0, a0, i0, kc0⟩, PySem.W.mg_of X G aC0, b0⟩
  have F1 := fun_mk (st := s_Net_places) l1 c1d k1
  have b1 := F1.binds (ps := ["self"]) fun _ _ _ _ _ _ us hl => match us, hl with | [_], _ => rfl
  have d1 : Dm K (tabs K c0) 0 "places" "Net.places" s_Net_places ["self"] := ⟨f1, _, F1, ⟨a1, i1, k1⟩, b1⟩
  have F2 := fun_mk (st := s_Net_lines) l2 c2d k2
  have b2 := F2.binds (ps := ["self"]) fun _ _ _ _ _ _ us hl => match us, hl with | [_], _ => rfl
  have d2 : Dm K (tabs K c0) 0 "lines" "Net.lines" s_Net_lines ["self"] := ⟨f2, _, F2, ⟨a2, i2, k2⟩, b2⟩
  have F3 := fun_mk (st := s_Net_sources) l3 c3d k3
  have b3 := F3.binds (ps := ["self"]) fun _ _ _ _ _ _ us hl => match us, hl with | [_], _ => rfl
  have d3 : Dm K (tabs K c0) 0 "sources" "Net.sources" s_Net_sources ["self"] := ⟨f3, _, F3, ⟨a3, i3, k3⟩, b3⟩
  have F4 := fun_mk (st := s_written) l4 c4d k4
  have b4 := F4.binds (ps := ["net"]) fun _ _ _ _ _ _ us hl => match us, hl with | [_], _ => rfl
  have d4 : Df K mg "written" s_written ["net"] := ⟨f4, _, F4, PySem.W.mg_of X G a4, b4⟩
  have F5 := fun_mk (st := s_number_of) l5 c5d k5
  have b5 := F5.binds (ps := ["word", "row"]) fun _ _ _ _ _ _ us hl => match us, hl with | [_, _], _ => rfl
  have d5 : Df K mg "number_of" s_number_of ["word", "row"] := ⟨f5, _, F5, PySem.W.mg_of X G a5, b5⟩
  have F6 := fun_mk (st := s_read) l6 c6d k6
  have b6 := F6.binds (ps := ["text"]) fun _ _ _ _ _ _ us hl => match us, hl with | [_], _ => rfl
  have d6 : Df K mg "read" s_read ["text"] := ⟨f6, _, F6, PySem.W.mg_of X G a6, b6⟩
  have F7 := fun_mk (st := s_Ldice) l7 c7d k7
  have b7 := F7.binds (ps := ["_law_script"]) fun _ _ _ _ _ _ us hl => match us, hl with | [_], _ => rfl
  have d7 : Df K mg "_law_dice" s_Ldice ["_law_script"] := ⟨f7, _, F7, PySem.W.mg_of X G a7, b7⟩
  have F8 := fun_mk (st := s_Lnext) l8 c8d k8
  have b8 := F8.binds (ps := ["_law_dice_here", "_law_many"]) fun _ _ _ _ _ _ us hl => match us, hl with | [_, _], _ => rfl
  have d8 : Df K mg "_law_next" s_Lnext ["_law_dice_here", "_law_many"] := ⟨f8, _, F8, PySem.W.mg_of X G a8, b8⟩
  have F9 := fun_mk (st := s_Lnet) l9 c9d k9
  have b9 := F9.binds (ps := ["_law_d", "_law_places", "_law_lines"]) fun _ _ _ _ _ _ us hl => match us, hl with | [_, _, _], _ => rfl
  have d9 : Df K mg "_law_net" s_Lnet ["_law_d", "_law_places", "_law_lines"] := ⟨f9, _, F9, PySem.W.mg_of X G a9, b9⟩
  have F10 := fun_mk (st := s_Llike) l10 c10d k10
  have b10 := F10.binds (ps := ["_law_found", "_law_due"]) fun _ _ _ _ _ _ us hl => match us, hl with | [_, _], _ => rfl
  have d10 : Df K mg "_law_like" s_Llike ["_law_found", "_law_due"] := ⟨f10, _, F10, PySem.W.mg_of X G a10, b10⟩
  have F11 := fun_mk (st := s_Ltext) l11 c11d k11
  have b11 := F11.binds (ps := ["_law_net_here"]) fun _ _ _ _ _ _ us hl => match us, hl with | [_], _ => rfl
  have d11 : Df K mg "_law_text" s_Ltext ["_law_net_here"] := ⟨f11, _, F11, PySem.W.mg_of X G a11, b11⟩
  have F12 := fun_mk (st := s_law) l12 c12d k12
  have b12 := F12.binds (ps := ["_law_script"]) fun _ _ _ _ _ _ us hl => match us, hl with | [_], _ => rfl
  have d12 : Df K mg "law" s_law ["_law_script"] := ⟨f12, _, F12, PySem.W.mg_of X G a12, b12⟩
  have e := hfa.symm.trans (PySem.W.mg_of X G a12)
  cases e
  refine ⟨PySem.W.fnOf "law" "law" (defArgs s_law) (defBody s_law) (defScope s_law) .none kV12 dc12 pm12 an12 cd12 ct12, fun s v => .of_eq rfl, fun base _ _ => ?_⟩
  have o_Net_init : Oki P w K mg base (tabs K c0) 1 0 "Net" S_Net_init := ok_Net_init (base := base) d0 B GG
  have o_Net_places : Okm P w K mg base (tabs K c0) 1 0 "places" S_Net_places := ok_Net_places (base := base) d1 B GG
  have o_Net_lines : Okm P w K mg base (tabs K c0) 1 0 "lines" S_Net_lines := ok_Net_lines (base := base) d2 B GG
  have o_Net_sources : Okm P w K mg base (tabs K c0) 1 0 "sources" S_Net_sources := ok_Net_sources (base := base) d3 B GG
  have o_written : Okd P w K mg base (tabs K c0) 2 "written" S_written := ok_written (base := base) d4 B GG o_Net_places
  have o_number_of : Okd P w K mg base (tabs K c0) 1 "number_of" S_number_of := ok_number_of (base := base) d5 B GG
  have o_read : Okd P w K mg base (tabs K c0) 3 "read" S_read := ok_read (base := base) d6 B GG o_Net_init o_number_of
  have o_Ldice : Okd P w K mg base (tabs K c0) 1 "_law_dice" S_Ldice := ok_Ldice (base := base) d7 B GG
  have o_Lnext : Okd P w K mg base (tabs K c0) 1 "_law_next" S_Lnext := ok_Lnext (base := base) d8 B GG
  have o_Lnet : Okd P w K mg base (tabs K c0) 2 "_law_net" S_Lnet := ok_Lnet (base := base) d9 B GG o_Lnext
  have o_Llike : Okd P w K mg base (tabs K c0) 5 "_law_like" S_Llike := ok_Llike d10 B GG 4
  have o_Ltext : Okd P w K mg base (tabs K c0) 1 "_law_text" S_Ltext := ok_Ltext (base := base) d11 B GG
  exact (ok_law F12 B GG o_written o_Llike o_Net_sources o_Net_lines o_Net_places o_read o_Net_init o_Ltext o_Lnet o_Ldice).imp (sp_law (T := tabs K c0) rfl id (fun _ => rfl) (fun _ _ => trivial) fun _ _ h => h)
end Kl
open PySem PySem.W PyProof.Rows
set_option maxRecDepth 100000 in
set_option maxHeartbeats 0 in
theorem PySem.Challenge.cw_cuelight_k16_written_and_read_holds : PySem.Challenge.rw_cuelight_k16_written_and_read.Holds := by
  w_on; o_law; k_head; (case hw => w_witness2)
  k_fill
  refine CL.walk_law (l := PySem.Challenge.rw_cuelight_k16_written_and_read) (n := 63) (k := 6) (x := "_law_script") rfl (by decide) rfl ⟨rfl, by decide, by decide⟩ (fun w h Y => PySem.W.kIn_of Y) ?F
  case F =>
    intro w mg fa h KX G hmg
    refine' Kl.all_mk KX G hmg ?aC0 ?pg0 ?hd0 ?po0 ?sa0 ?mk0 ?kc0 ?n0needs ?n0roots ?n0wires ?gMOST_PLACES ?gMOST_LINES ?gMOST_NUMBER ?gMOST_FIGURES ?gFIGURES ?blen ?brange ?blist ?btuple ?bsorted ?bsum ?bint ?bstr ?bmax ?bmin ?bset ?bdict ?bisinstance ?bbool ?bValueError ?a0 ?i0 ?l0 ?c0d ?k0 ?a1 ?i1 ?l1 ?c1d ?k1 ?a2 ?i2 ?l2 ?c2d ?k2 ?a3 ?i3 ?l3 ?c3d ?k3 ?a4 ?l4 ?c4d ?k4 ?a5 ?l5 ?c5d ?k5 ?a6 ?l6 ?c6d ?k6 ?a7 ?l7 ?c7d ?k7 ?a8 ?l8 ?c8d ?k8 ?a9 ?l9 ?c9d ?k9 ?a10 ?l10 ?c10d ?k10 ?a11 ?l11 ?c11d ?k11 ?a12 ?l12 ?c12d ?k12
    (case aC0 => k_is)
    (case pg0 => k_is)
    (case hd0 => k_is)
    (case po0 => k_is)
    (case sa0 => k_is)
    (case mk0 => k_is)
    (case kc0 => k_is)
    (case n0needs => k_is)
    (case n0roots => k_is)
    (case n0wires => k_is)
    (case gMOST_PLACES => k_is)
    (case gMOST_LINES => k_is)
    (case gMOST_NUMBER => k_is)
    (case gMOST_FIGURES => k_is)
    (case gFIGURES => k_is)
    (case blen => k_is)
    (case brange => k_is)
    (case blist => k_is)
    (case btuple => k_is)
    (case bsorted => k_is)
    (case bsum => k_is)
    (case bint => k_is)
    (case bstr => k_is)
    (case bmax => k_is)
    (case bmin => k_is)
    (case bset => k_is)
    (case bdict => k_is)
    (case bisinstance => k_is)
    (case bbool => k_is)
    (case bValueError => k_is)
    (case a0 => k_is)
    (case i0 => k_is)
    (case l0 => k_is)
    (case c0d => k_is)
    (case k0 => k_is)
    (case a1 => k_is)
    (case i1 => k_is)
    (case l1 => k_is)
    (case c1d => k_is)
    (case k1 => k_is)
    (case a2 => k_is)
    (case i2 => k_is)
    (case l2 => k_is)
    (case c2d => k_is)
    (case k2 => k_is)
    (case a3 => k_is)
    (case i3 => k_is)
    (case l3 => k_is)
    (case c3d => k_is)
    (case k3 => k_is)
    (case a4 => k_is)
    (case l4 => k_is)
    (case c4d => k_is)
    (case k4 => k_is)
    (case a5 => k_is)
    (case l5 => k_is)
    (case c5d => k_is)
    (case k5 => k_is)
    (case a6 => k_is)
    (case l6 => k_is)
    (case c6d => k_is)
    (case k6 => k_is)
    (case a7 => k_is)
    (case l7 => k_is)
    (case c7d => k_is)
    (case k7 => k_is)
    (case a8 => k_is)
    (case l8 => k_is)
    (case c8d => k_is)
    (case k8 => k_is)
    (case a9 => k_is)
    (case l9 => k_is)
    (case c9d => k_is)
    (case k9 => k_is)
    (case a10 => k_is)
    (case l10 => k_is)
    (case c10d => k_is)
    (case k10 => k_is)
    (case a11 => k_is)
    (case l11 => k_is)
    (case c11d => k_is)
    (case k11 => k_is)
    (case a12 => k_is)
    (case l12 => k_is)
    (case c12d => k_is)
    (case k12 => k_is)
