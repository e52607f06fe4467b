import PyProof.Rows.All
import Wide.All
import OpenK.AllK
import Wide.FinOn
import HandS.ForMost
import HandS.Codes
import HandS.Conv
import HandS.TupAny
import HandS.IsInst
import HandS.Deep
import HandS.Flow
import HandS.SetFor
import HandS.SetKeys
import KE.GoesEnum
import KE.GoesZip
import HandS.TupMul
import KE.KTupSum
import HandS.SortRule
import KE.DataMinMax
import KE.SortData
import HandS.Wide
import PySem.Challenge.RW_playershouse_k54_whole_seats_by_four_rul
import HandS.EndTab
set_option Elab.async false
set_option linter.all false
set_option maxRecDepth 100000
set_option maxHeartbeats 4000000
/-! DL0: data of any depth over the layer HandS: what a value stands for, and the state's two parts. -/
namespace DL
open PySem PySem.Spec PyProof.Rows L2

/-- data: what a value stands for, without addresses (tk: an object told by its address) -/
inductive D where
  | non
  | bl (b : Bool)
  | int (i : Int)
  | str (x : Str)
  | tup (xs : List D)
  | lst (xs : List D)
  | ins (c : Str) (fs : List (Str × D))
  | tk (a : Addr)
  | ty (n : String)
  | cls (c : Str)

section
variable (K : PySem.W.Frag) (mg : Str → Option Value) (F : Hp)
mutual
inductive Is : V → D → Prop
  | non : Is .non .non
  | bl (b : Bool) : Is (.bl b) (.bl b)
  | int (i : Int) : Is (.int i) (.int i)
  | str (x : Str) : Is (.str x) (.str x)
  | tup {a : Addr} {xs : List V} {ds : List D} : SqT K F a xs → IsA xs ds → Is (.ref a) (.tup ds)
  | lst {a : Addr} {xs : List V} {ds : List D} : F a = some (.lst xs) → IsA xs ds → Is (.ref a) (.lst ds)
  | ins {a C dx : Addr} {c : Str} {fs : List (Str × V)} {gs : List (Str × D)} : mg c = some (.ref C) → F a = some (.ins C dx fs) → IsF fs gs → Is (.ref a) (.ins c gs)
  | tk (a : Addr) : Is (.ref a) (.tk a)
  | ty (n : String) : Is (.ty n) (.ty n)
  | cls {c : Str} {C : Addr} : mg c = some (.ref C) → Is (.ref C) (.cls c)
inductive IsA : List V → List D → Prop
  | nil : IsA [] []
  | cons {v : V} {vs : List V} {d : D} {ds : List D} : Is v d → IsA vs ds → IsA (v :: vs) (d :: ds)
inductive IsF : List (Str × V) → List (Str × D) → Prop
  | nil : IsF [] []
  | cons {x : Str} {v : V} {vs : List (Str × V)} {d : D} {ds : List (Str × D)} : Is v d → IsF vs ds → IsF ((x, v) :: vs) ((x, d) :: ds)
end
end

section
variable {K : PySem.W.Frag} {mg : Str → Option Value} {F F' : Hp}
theorem same_seqT {H H' : Hp} {a : Addr} {xs : List V} (e : Same H H') (h : SqT K H a xs) : SqT K H' a xs := by
  rcases h with (h | ⟨o, h⟩) | h
  · exact .inl (.inl (e _ _ h))
  · exact .inl (.inr ⟨o, e _ _ h⟩)
  · exact .inr h
mutual
theorem Is.mono (e : Same F F') : ∀ {v : V} {d : D}, Is K mg F v d → Is K mg F' v d
  | _, _, .non => .non
  | _, _, .bl b => .bl b
  | _, _, .int i => .int i
  | _, _, .str x => .str x
  | _, _, .tup h t => .tup (same_seqT e h) (IsA.mono e t)
  | _, _, .lst h t => .lst (e _ _ h) (IsA.mono e t)
  | _, _, .ins m h t => .ins m (e _ _ h) (IsF.mono e t)
  | _, _, .tk a => .tk a
  | _, _, .ty a => .ty a
  | _, _, .cls h => .cls h
theorem IsA.mono (e : Same F F') : ∀ {vs : List V} {ds : List D}, IsA K mg F vs ds → IsA K mg F' vs ds
  | _, _, .nil => .nil
  | _, _, .cons h t => .cons (Is.mono e h) (IsA.mono e t)
theorem IsF.mono (e : Same F F') : ∀ {vs : List (Str × V)} {ds : List (Str × D)}, IsF K mg F vs ds → IsF K mg F' vs ds
  | _, _, .nil => .nil
  | _, _, .cons h t => .cons (Is.mono e h) (IsF.mono e t)
end
theorem IsA.length : ∀ {vs : List V} {ds : List D}, IsA K mg F vs ds → vs.length = ds.length
  | _, _, .nil => rfl
  | _, _, .cons _ t => congrArg (· + 1) (IsA.length t)
theorem IsA.get : ∀ {vs : List V} {ds : List D} {i : Nat} {d : D}, IsA K mg F vs ds → ds[i]? = some d → ∃ v, vs[i]? = some v ∧ Is K mg F v d
  | _, _, _, _, .nil, e => by simp at e
  | _, _, 0, _, .cons h _, e => by
    simp at e
    subst e
    exact ⟨_, rfl, h⟩
  | _, _, i + 1, _, .cons _ t, e => by
    obtain ⟨v, h1, h2⟩ := IsA.get (i := i) t (by simpa using e)
    exact ⟨v, by simpa using h1, h2⟩
theorem IsA.append : ∀ {vs ws : List V} {ds es : List D}, IsA K mg F vs ds → IsA K mg F ws es → IsA K mg F (vs ++ ws) (ds ++ es)
  | _, _, _, _, .nil, t => t
  | _, _, _, _, .cons h t, s => .cons h (IsA.append t s)
theorem IsA.take : ∀ {vs : List V} {ds : List D} (n : Nat), IsA K mg F vs ds → IsA K mg F (vs.take n) (ds.take n)
  | _, _, 0, _ => .nil
  | _, _, _ + 1, .nil => .nil
  | _, _, n + 1, .cons h t => .cons h (IsA.take n t)
theorem IsA.drop : ∀ {vs : List V} {ds : List D} (n : Nat), IsA K mg F vs ds → IsA K mg F (vs.drop n) (ds.drop n)
  | _, _, 0, h => h
  | _, _, _ + 1, .nil => .nil
  | _, _, n + 1, .cons _ t => IsA.drop n t
theorem IsA.set : ∀ {vs : List V} {ds : List D} {v : V} {d : D} (i : Nat), Is K mg F v d → IsA K mg F vs ds → IsA K mg F (vs.set i v) (ds.set i d)
  | _, _, _, _, _, _, .nil => .nil
  | _, _, _, _, 0, h, .cons _ t => .cons h t
  | _, _, _, _, i + 1, h, .cons q t => .cons q (IsA.set i h t)
theorem IsA.eraseIdx : ∀ {vs : List V} {ds : List D} (i : Nat), IsA K mg F vs ds → IsA K mg F (vs.eraseIdx i) (ds.eraseIdx i)
  | _, _, _, .nil => .nil
  | _, _, 0, .cons _ t => t
  | _, _, i + 1, .cons q t => .cons q (IsA.eraseIdx i t)
theorem IsA.reverse {vs : List V} {ds : List D} (h : IsA K mg F vs ds) : IsA K mg F vs.reverse ds.reverse := by
  induction h using IsA.rec (motive_1 := fun _ _ _ => True) (motive_3 := fun _ _ _ => True) with
  | nil => exact .nil
  | cons h t _ ih =>
    rw [List.reverse_cons, List.reverse_cons]
    exact IsA.append ih (.cons h .nil)
  | _ => trivial
theorem IsF.lookup : ∀ {vs : List (Str × V)} {ds : List (Str × D)} {f : Str} {d : D}, IsF K mg F vs ds → ds.lookup f = some d → ∃ v, vs.lookup f = some v ∧ Is K mg F v d
  | _, _, _, _, .nil, e => by simp at e
  | _, _, f, _, .cons (x := x) h t, e => by
    rw [List.lookup_cons] at e ⊢
    cases hx : f == x with
    | true =>
      rw [hx] at e
      cases e
      exact ⟨_, rfl, h⟩
    | false =>
      rw [hx] at e
      exact IsF.lookup t e
end

/-! ### flat data by what stands -/
section
variable {K : PySem.W.Frag} {mg : Str → Option Value} {F : Hp} {v : V}
theorem Is.int_inv {i : Int} (h : Is K mg F v (.int i)) : v = .int i := by cases h; rfl
theorem Is.bl_inv {b : Bool} (h : Is K mg F v (.bl b)) : v = .bl b := by cases h; rfl
theorem Is.non_inv (h : Is K mg F v .non) : v = .non := by cases h; rfl
theorem Is.str_inv {x : Str} (h : Is K mg F v (.str x)) : v = .str x := by cases h; rfl
theorem Is.tk_inv {a : Addr} (h : Is K mg F v (.tk a)) : v = .ref a := by cases h; rfl
theorem Is.ty_inv {a : String} (h : Is K mg F v (.ty a)) : v = .ty a := by cases h; rfl
theorem Is.cls_inv {c : Str} (h : Is K mg F v (.cls c)) : ∃ C, v = .ref C ∧ mg c = some (.ref C) := by
  cases h with
  | cls h => exact ⟨_, rfl, h⟩
theorem Is.tup_inv {ds : List D} (h : Is K mg F v (.tup ds)) : ∃ a xs, v = .ref a ∧ SqT K F a xs ∧ IsA K mg F xs ds := by
  cases h with
  | tup h t => exact ⟨_, _, rfl, h, t⟩
theorem Is.lst_inv {ds : List D} (h : Is K mg F v (.lst ds)) : ∃ a xs, v = .ref a ∧ F a = some (.lst xs) ∧ IsA K mg F xs ds := by
  cases h with
  | lst h t => exact ⟨_, _, rfl, h, t⟩
theorem Is.ins_inv {c : Str} {gs : List (Str × D)} (h : Is K mg F v (.ins c gs)) : ∃ a C dx fs, v = .ref a ∧ mg c = some (.ref C) ∧ F a = some (.ins C dx fs) ∧ IsF K mg F fs gs := by
  cases h with
  | ins m h t => exact ⟨_, _, _, _, rfl, m, h, t⟩
theorem IsA.nil_inv {vs : List V} (h : IsA K mg F vs []) : vs = [] := by cases h; rfl
theorem IsA.cons_inv {vs : List V} {d : D} {ds : List D} (h : IsA K mg F vs (d :: ds)) : ∃ v r, vs = v :: r ∧ Is K mg F v d ∧ IsA K mg F r ds := by
  cases h with
  | cons h t => exact ⟨_, _, rfl, h, t⟩
theorem IsA.one_inv {vs : List V} {d : D} (h : IsA K mg F vs [d]) : ∃ v, vs = [v] ∧ Is K mg F v d := by
  obtain ⟨v, r, rfl, h1, t⟩ := h.cons_inv
  cases t.nil_inv
  exact ⟨v, rfl, h1⟩
theorem IsA.two_inv {vs : List V} {d e : D} (h : IsA K mg F vs [d, e]) : ∃ v w, vs = [v, w] ∧ Is K mg F v d ∧ Is K mg F w e := by
  obtain ⟨v, r, rfl, h1, t⟩ := h.cons_inv
  obtain ⟨w, rfl, h2⟩ := t.one_inv
  exact ⟨v, w, rfl, h1, h2⟩
theorem IsA.ints : ∀ {ns : List Int} {vs : List V}, IsA K mg F vs (ns.map D.int) → vs = ns.map V.int
  | [], _, h => h.nil_inv
  | n :: ns, _, h => by
    obtain ⟨v, r, rfl, h1, t⟩ := IsA.cons_inv (h : IsA K mg F _ (D.int n :: ns.map D.int))
    rw [h1.int_inv, IsA.ints t]
    rfl
theorem IsA.bls : ∀ {ns : List Bool} {vs : List V}, IsA K mg F vs (ns.map D.bl) → vs = ns.map V.bl
  | [], _, h => h.nil_inv
  | n :: ns, _, h => by
    obtain ⟨v, r, rfl, h1, t⟩ := IsA.cons_inv (h : IsA K mg F _ (D.bl n :: ns.map D.bl))
    rw [h1.bl_inv, IsA.bls t]
    rfl
theorem IsA.strs : ∀ {ns : List Str} {vs : List V}, IsA K mg F vs (ns.map D.str) → vs = ns.map V.str
  | [], _, h => h.nil_inv
  | n :: ns, _, h => by
    obtain ⟨v, r, rfl, h1, t⟩ := IsA.cons_inv (h : IsA K mg F _ (D.str n :: ns.map D.str))
    rw [h1.str_inv, IsA.strs t]
    rfl
theorem isA_ints : ∀ {ns : List Int}, IsA K mg F (ns.map V.int) (ns.map D.int)
  | [] => .nil
  | n :: ns => .cons (.int n) isA_ints
end

/-! ### data of the library's own kind (no instances, no addresses) -/
mutual
def toPy : D → Option PyData
  | .non => some .none
  | .bl b => some (.bool b)
  | .int i => some (.int i)
  | .str x => some (.str x)
  | .tup xs => (toPyA xs).map .tuple
  | .lst xs => (toPyA xs).map .list
  | .ins _ _ => none
  | .tk _ => none
  | .ty _ => none
  | .cls _ => none
def toPyA : List D → Option (List PyData)
  | [] => some []
  | d :: ds => match toPy d, toPyA ds with
    | some p, some ps => some (p :: ps)
    | _, _ => none
end
section
variable {K : PySem.W.Frag} {mg : Str → Option Value} {F : Hp}
mutual
theorem Is.toDp : ∀ (d : D) (v : V) (p : PyData), Is K mg F v d → toPy d = some p → Dp K F v p
  | .non, _, _, h, e => by
    cases h
    cases e
    exact .non
  | .bl b, _, _, h, e => by
    cases h
    cases e
    exact .bl b
  | .int i, _, _, h, e => by
    cases h
    cases e
    exact .int i
  | .str x, _, _, h, e => by
    cases h
    cases e
    exact .str x
  | .tup ds, _, _, h, e => by
    obtain ⟨a, xs, rfl, hs, ha⟩ := h.tup_inv
    simp only [toPy, Option.map_eq_some_iff] at e
    obtain ⟨ps, e1, rfl⟩ := e
    exact .tup hs (IsA.toDp ds xs ps ha e1)
  | .lst ds, _, _, h, e => by
    obtain ⟨a, xs, rfl, hs, ha⟩ := h.lst_inv
    simp only [toPy, Option.map_eq_some_iff] at e
    obtain ⟨ps, e1, rfl⟩ := e
    exact .lst (SqL.of hs) (IsA.toDp ds xs ps ha e1)
  | .ins _ _, _, _, _, e => by simp [toPy] at e
  | .tk _, _, _, _, e => by simp [toPy] at e
  | .ty _, _, _, _, e => by simp [toPy] at e
  | .cls _, _, _, _, e => by simp [toPy] at e
theorem IsA.toDp : ∀ (ds : List D) (vs : List V) (ps : List PyData), IsA K mg F vs ds → toPyA ds = some ps → DpAll K F vs ps
  | [], _, _, h, e => by
    cases h.nil_inv
    simp [toPyA] at e
    subst e
    exact .nil
  | d :: ds, _, _, h, e => by
    obtain ⟨v, r, rfl, h1, t⟩ := h.cons_inv
    unfold toPyA at e
    split at e
    · rename_i p ps e1 e2
      cases e
      exact .cons (Is.toDp d v p h1 e1) (IsA.toDp ds r ps t e2)
    · cases e
end
mutual
theorem dp_mono {H H' : Hp} (e : Same H H') : ∀ {v : V} {p : PyData}, Dp K H v p → Dp K H' v p
  | _, _, .non => .non
  | _, _, .bl b => .bl b
  | _, _, .int i => .int i
  | _, _, .str x => .str x
  | _, _, .lst h t => .lst (e.seq h) (dpA_mono e t)
  | _, _, .tup h t => .tup (same_seqT e h) (dpA_mono e t)
theorem dpA_mono {H H' : Hp} (e : Same H H') : ∀ {vs : List V} {ps : List PyData}, DpAll K H vs ps → DpAll K H' vs ps
  | _, _, .nil => .nil
  | _, _, .cons h t => .cons (dp_mono e h) (dpA_mono e t)
end
end

/-! ### the state: F what never changes, pr what others own, J's own things -/
/-- a thing with a state of its own (the law's source of numbers): where it lies, what holds of it, its object's address -/
structure GJ where
  mt : Addr → Prop
  inv : Hp → Hp → Prop
  at_ : ∀ F H b, inv F H → mt b → H b ≠ none
  stay : ∀ F H F' H', inv F H → Same F F' → (∀ b, mt b → H' b = H b) → (∀ b φ, H b = some (.ext φ) → H' b = some (.ext φ)) → inv F' H'
/-- nothing of that kind -/
def J0 : GJ := ⟨fun _ => False, fun _ _ => True, fun _ _ _ _ h => h.elim, fun _ _ _ _ _ _ _ _ => trivial⟩

/-- no table of code objects (these grow where a lambda is made) -/
def NT (o : HO) : Prop := ∀ ps, o ≠ .tbl ps
theorem nt_lst {vs : List V} : NT (.lst vs) := fun _ z => by cases z
theorem nt_tup {vs : List V} : NT (.tup vs) := fun _ z => by cases z
theorem nt_dK {vs : List (Key × V)} : NT (.dK vs) := fun _ z => by cases z
theorem nt_dT {vs : List (List Key × V)} : NT (.dT vs) := fun _ z => by cases z
structure St8 (J : GJ) (pr F H : Hp) : Prop where
  sub : Same F H
  prk : ∀ b o, pr b = some o → H b = some o ∧ F b = none
  inv : J.inv F H
  mtF : ∀ b, J.mt b → F b = none ∧ pr b = none
  nt : ∀ b o, F b = some o ∨ pr b = some o → NT o
/-- from one state to a later one: what stood stands (but J's), nothing of it was laid down as unchanging -/
structure Stp (J : GJ) (pr F H F' H' : Hp) : Prop where
  st : St8 J pr F' H'
  ff : Same F F'
  hh : ∀ b o, ¬ J.mt b → NT o → H b = some o → H' b = some o
  nf : ∀ b o, NT o → H b = some o → F b = none → F' b = none
section
variable {J : GJ} {pr F H F' H' F2 H2 : Hp}
theorem Stp.refl (s : St8 J pr F H) : Stp J pr F H F H := ⟨s, Same.refl _, fun _ _ _ _ h => h, fun _ _ _ _ h => h⟩
theorem Stp.trans (a : Stp J pr F H F' H') (ha : St8 J pr F H) (b : Stp J pr F' H' F2 H2) : Stp J pr F H F2 H2 :=
  ⟨b.st, a.ff.trans b.ff, fun c o m t h => b.hh c o m t (a.hh c o m t h), fun c o t h n => by
    by_cases m : J.mt c
    · exact (b.st.mtF c m).1
    · exact b.nf c o t (a.hh c o m t h) (a.nf c o t h n)⟩
/-- a new object is laid down, never to change -/
theorem St8.laid {p : Addr} {o : HO} (s : St8 J pr F H) (n : H p = none) (ho : NT o) : Stp J pr F H (upd F p o) (upd H p o) := by
  have nF : F p = none := s.sub.free n
  refine ⟨⟨fun b x h => ?_, fun b x h => ?_, J.stay F H _ _ s.inv (fun b x h => (upd_ne (ne_of_none h nF)).trans h) (fun b m => upd_ne ?_) (fun b φ h => (upd_ne (ne_of_none h n)).trans h), fun b m => ?_, fun b x h => ?_⟩, fun b x h => ?_, fun b x _ _ h => ?_, fun b x _ h f => ?_⟩
  · by_cases e : b = p
    · subst e
      rw [upd_same] at h ⊢
      exact h
    · rw [upd_ne e] at h ⊢
      exact s.sub b x h
  · obtain ⟨h1, h2⟩ := s.prk b x h
    have e : b ≠ p := ne_of_none h1 n
    exact ⟨by rw [upd_ne e]; exact h1, by rw [upd_ne e]; exact h2⟩
  · intro e
    subst e
    exact J.at_ F H b s.inv m n
  · have e : b ≠ p := fun e => by
      subst e
      exact J.at_ F H b s.inv m n
    exact ⟨by rw [upd_ne e]; exact (s.mtF b m).1, (s.mtF b m).2⟩
  · by_cases e : b = p
    · subst e
      rcases h with h | h
      · rw [upd_same] at h
        cases h
        exact ho
      · exact s.nt b x (.inr h)
    · rw [upd_ne e] at h
      exact s.nt b x h
  · rw [upd_ne (ne_of_none h nF)]
    exact h
  · rw [upd_ne (ne_of_none h n)]
    exact h
  · rw [upd_ne (ne_of_none h n)]
    exact f
/-- a new object is made, that somebody owns -/
theorem St8.made {p : Addr} {o : HO} (s : St8 J pr F H) (n : H p = none) : Stp J pr F H F (upd H p o) := by
  refine ⟨⟨fun b x h => ?_, fun b x h => ?_, J.stay F H _ _ s.inv (Same.refl _) (fun b m => upd_ne ?_) (fun b φ h => (upd_ne (ne_of_none h n)).trans h), s.mtF, s.nt⟩, Same.refl _, fun b x _ _ h => ?_, fun b x _ h f => f⟩
  · have h' := s.sub b x h
    rw [upd_ne (ne_of_none h' n)]
    exact h'
  · obtain ⟨h1, h2⟩ := s.prk b x h
    exact ⟨by rw [upd_ne (ne_of_none h1 n)]; exact h1, h2⟩
  · intro e
    subst e
    exact J.at_ F H b s.inv m n
  · rw [upd_ne (ne_of_none h n)]
    exact h
/-- an owned object is written -/
theorem St8.write {p : Addr} {o : HO} (s : St8 J pr F H) (f : F p = none) (q : pr p = none) (m : ¬ J.mt p) (hx : ∀ φ, H p ≠ some (.ext φ)) : St8 J pr F (upd H p o) := by
  refine ⟨fun b x h => ?_, fun b x h => ?_, J.stay F H _ _ s.inv (Same.refl _) (fun b m' => upd_ne ?_) (fun b φ h => (upd_ne (fun z => by subst z; exact hx φ h)).trans h), s.mtF, s.nt⟩
  · rw [upd_ne (ne_of_none h f)]
    exact s.sub b x h
  · rw [upd_ne (ne_of_none h q)]
    exact s.prk b x h
  · intro e
    subst e
    exact m m'
/-- an owned object is laid down, never to change from now on -/
theorem St8.freeze {p : Addr} {o : HO} (s : St8 J pr F H) (h : H p = some o) (f : F p = none) (q : pr p = none) (m : ¬ J.mt p) (ho : NT o) : St8 J pr (upd F p o) H := by
  refine ⟨fun b x e => ?_, fun b x e => ?_, J.stay F H _ _ s.inv (fun b x e => (upd_ne (ne_of_none e f)).trans e) (fun _ _ => rfl) (fun _ _ h => h), fun b m' => ?_, fun b x e => ?_⟩
  · by_cases eb : b = p
    · subst eb
      rw [upd_same] at e
      cases e
      exact h
    · rw [upd_ne eb] at e
      exact s.sub b x e
  · rw [upd_ne (ne_of_none e q)]
    exact s.prk b x e
  · have e : b ≠ p := fun e => by
      subst e
      exact m m'
    rw [upd_ne e]
    exact s.mtF b m'
  · by_cases eb : b = p
    · subst eb
      rcases e with e | e
      · rw [upd_same] at e
        cases e
        exact ho
      · exact s.nt b x (.inr e)
    · rw [upd_ne eb] at e
      exact s.nt b x e
theorem same_upd' {F : Hp} {p : Addr} {o : HO} (f : F p = none) : Same F (upd F p o) := fun b x h => by
  rw [upd_ne (ne_of_none h f)]
  exact h
end
end DL

/-! DL1: operations by data. -/
namespace DL
open PySem PySem.Spec PyProof.Rows L2

abbrev Prim := List D → (D → Prop) → Prop

section
variable (K : PySem.W.Frag) (mg : Str → Option Value) (F H : Hp)
/-- data, or a list as it stands at the moment -/
def IsB (v : V) (d : D) : Prop := Is K mg F v d ∨ ∃ (p : Addr) (vs : List V) (xs : List D), v = .ref p ∧ d = .lst xs ∧ H p = some (.lst vs) ∧ IsA K mg F vs xs
inductive IsBA : List V → List D → Prop
  | nil : IsBA [] []
  | cons {v : V} {vs : List V} {d : D} {ds : List D} : IsB K mg F H v d → IsBA vs ds → IsBA (v :: vs) (d :: ds)
end
section
variable {K : PySem.W.Frag} {mg : Str → Option Value} {F H : Hp} {v : V} {vs : List V}
theorem IsA.b : ∀ {vs : List V} {ds : List D}, IsA K mg F vs ds → IsBA K mg F H vs ds
  | _, _, .nil => .nil
  | _, _, .cons h t => .cons (.inl h) (IsA.b t)
theorem IsBA.nil_inv (h : IsBA K mg F H vs []) : vs = [] := by cases h; rfl
theorem IsBA.cons_inv {d : D} {ds : List D} (h : IsBA K mg F H vs (d :: ds)) : ∃ v r, vs = v :: r ∧ IsB K mg F H v d ∧ IsBA K mg F H r ds := by
  cases h with
  | cons h t => exact ⟨_, _, rfl, h, t⟩
theorem IsBA.one_inv {d : D} (h : IsBA K mg F H vs [d]) : ∃ v, vs = [v] ∧ IsB K mg F H v d := by
  obtain ⟨v, r, rfl, h1, t⟩ := h.cons_inv
  cases t.nil_inv
  exact ⟨v, rfl, h1⟩
theorem IsBA.two_inv {d e : D} (h : IsBA K mg F H vs [d, e]) : ∃ v w, vs = [v, w] ∧ IsB K mg F H v d ∧ IsB K mg F H w e := by
  obtain ⟨v, r, rfl, h1, t⟩ := h.cons_inv
  obtain ⟨w, rfl, h2⟩ := t.one_inv
  exact ⟨v, w, rfl, h1, h2⟩
theorem IsB.int_inv {i : Int} (h : IsB K mg F H v (.int i)) : v = .int i := by
  rcases h with h | ⟨_, _, _, _, e, _⟩
  · exact h.int_inv
  · cases e
theorem IsB.bl_inv {i : Bool} (h : IsB K mg F H v (.bl i)) : v = .bl i := by
  rcases h with h | ⟨_, _, _, _, e, _⟩
  · exact h.bl_inv
  · cases e
theorem IsB.non_inv (h : IsB K mg F H v .non) : v = .non := by
  rcases h with h | ⟨_, _, _, _, e, _⟩
  · exact h.non_inv
  · cases e
theorem IsB.str_inv {x : Str} (h : IsB K mg F H v (.str x)) : v = .str x := by
  rcases h with h | ⟨_, _, _, _, e, _⟩
  · exact h.str_inv
  · cases e
theorem IsB.ty_inv {n : String} (h : IsB K mg F H v (.ty n)) : v = .ty n := by
  rcases h with h | ⟨_, _, _, _, e, _⟩
  · exact h.ty_inv
  · cases e
theorem IsB.tup_inv {ds : List D} (h : IsB K mg F H v (.tup ds)) : ∃ a xs, v = .ref a ∧ SqT K F a xs ∧ IsA K mg F xs ds := by
  rcases h with h | ⟨_, _, _, _, e, _⟩
  · exact h.tup_inv
  · cases e
theorem IsB.lst_inv {ds : List D} (s : Same F H) (h : IsB K mg F H v (.lst ds)) : ∃ a xs, v = .ref a ∧ H a = some (.lst xs) ∧ IsA K mg F xs ds := by
  rcases h with h | ⟨p, vs, xs, e1, e2, e3, e4⟩
  · obtain ⟨a, xs, rfl, h1, h2⟩ := h.lst_inv
    exact ⟨a, xs, rfl, s _ _ h1, h2⟩
  · cases e2
    exact ⟨p, vs, e1, e3, e4⟩
theorem IsB.toDp {d : D} {p : PyData} (s : Same F H) (h : IsB K mg F H v d) (e : toPy d = some p) : Dp K H v p := by
  rcases h with h | ⟨a, vs, xs, rfl, rfl, e3, e4⟩
  · exact dp_mono s (Is.toDp d v p h e)
  · simp only [toPy, Option.map_eq_some_iff] at e
    obtain ⟨ps, e1, rfl⟩ := e
    exact .lst (SqL.of e3) (dpA_mono s (IsA.toDp xs vs ps e4 e1))
end

/-- an operation on values that keeps the promise O of the data -/
def rP (K : PySem.W.Frag) (mg : Str → Option Value) (J : GJ) (O : Prim) : List V → Hp → VK → Prop := fun vs H Q =>
  ∃ (pr F : Hp) (ds : List D) (q : D → Prop), St8 J pr F H ∧ IsBA K mg F H vs ds ∧ O ds q ∧ ∀ d z F' H', Stp J pr F H F' H' → Is K mg F' z d → q d → Q z H'
def OpD (X : Cx) (J : GJ) (f : Value → Value → Sem Value) (O : Prim) : Prop := OpR X f fun x y H Q => rP X.K X.mg J O [x, y] H Q
def UnD (X : Cx) (J : GJ) (f : Value → Sem Value) (O : Prim) : Prop := UnR X f fun x H Q => rP X.K X.mg J O [x] H Q
def CallD (X : Cx) (J : GJ) (f : Value) (O : Prim) : Prop := CallR X f (rP X.K X.mg J O)
def IxD (X : Cx) (J : GJ) (O : Prim) : Prop := IxR X fun x y H Q => rP X.K X.mg J O [x, y] H Q
def MtD (X : Cx) (J : GJ) (id : String) (O : Prim) : Prop := MtR X id fun x xs H Q => rP X.K X.mg J O (x :: xs) H Q
theorem OpR.imp {X : Cx} {f : Value → Value → Sem Value} {r r' : R2} (h : OpR X f r) (i : ∀ x y H Q, r' x y H Q → r x y H Q) : OpR X f r' :=
  fun pins s σ H x y v u Q I rx ry q => h pins s σ H x y v u Q I rx ry (i _ _ _ _ q)
theorem UnR.imp {X : Cx} {f : Value → Sem Value} {r r' : V → Hp → VK → Prop} (h : UnR X f r) (i : ∀ x H Q, r' x H Q → r x H Q) : UnR X f r' :=
  fun pins s σ H x v Q I rx q => h pins s σ H x v Q I rx (i _ _ _ q)
theorem CallR.imp {X : Cx} {f : Value} {r r' : List V → Hp → VK → Prop} (h : CallR X f r) (i : ∀ x H Q, r' x H Q → r x H Q) : CallR X f r' :=
  fun pins s σ H x v Q I rx q => h pins s σ H x v Q I rx (i _ _ _ q)
theorem IxR.imp {X : Cx} {r r' : R2} (h : IxR X r) (i : ∀ x y H Q, r' x y H Q → r x y H Q) : IxR X r' :=
  fun a b pins s σ H x y v u Q I rx ry q hs => h a b pins s σ H x y v u Q I rx ry (i _ _ _ _ q) hs

section
variable {K : PySem.W.Frag} {mg : Str → Option Value} {J : GJ} {pr F H : Hp} {q : D → Prop} {Q : VK}
/-- the answer is flat: nothing is made -/
theorem ans (st : St8 J pr F H) (k : ∀ d z F' H', Stp J pr F H F' H' → Is K mg F' z d → q d → Q z H') {d : D} {z : V} (h : Is K mg F z d) (hq : q d) : Q z H := k d z F H (.refl st) h hq
/-- a new object -/
theorem ansNew (st : St8 J pr F H) (k : ∀ d z F' H', Stp J pr F H F' H' → Is K mg F' z d → q d → Q z H') {d : D} {p : Addr} {o : HO} (n : H p = none) (h : ∀ F', Same F F' → F' p = some o → Is K mg F' (.ref p) d) (hq : q d) (ho : NT o := by first | exact nt_lst | exact nt_tup) : Q (.ref p) (upd H p o) :=
  k d _ _ _ (st.laid n ho) (h _ (same_upd' (st.sub.free n)) upd_same) hq
theorem is_lst {F : Hp} {p : Addr} {vs : List V} {xs : List D} (h : IsA K mg F vs xs) : ∀ F', Same F F' → F' p = some (.lst vs) → Is K mg F' (.ref p) (.lst xs) := fun F' s e => .lst e (h.mono s)
theorem is_tup {F : Hp} {p : Addr} {vs : List V} {xs : List D} (h : IsA K mg F vs xs) : ∀ F', Same F F' → F' p = some (.tup vs) → Is K mg F' (.ref p) (.tup xs) := fun F' s e => .tup (SqT.of e) (h.mono s)
end

/-! ### arithmetic -/
@[simp] def oAdd : Prim
  | [.int i, .int j], q => q (.int (i + j))
  | [.int i, .bl k], q => q (.int (i + b2i k))
  | [.tup xs, .tup ys], q => xs.length + ys.length ≤ sizeLine ∧ q (.tup (xs ++ ys))
  | [.lst xs, .lst ys], q => xs.length + ys.length ≤ sizeLine ∧ q (.lst (xs ++ ys))
  | [.str x, .str y], q => x.length + y.length ≤ sizeLine ∧ q (.str (x ++ y))
  | _, _ => False
@[simp] def oSub : Prim
  | [.int i, .int j], q => q (.int (i - j))
  | _, _ => False
@[simp] def oMul : Prim
  | [.int i, .int j], q => CMul i j ∧ q (.int (i * j))
  | [.lst xs, .int k], q => -(2 ^ 63) ≤ k ∧ k < 2 ^ 63 ∧ xs.length * k.toNat ≤ sizeLine ∧ q (.lst (List.replicate k.toNat xs).flatten)
  | _, _ => False
@[simp] def oDiv : Prim
  | [.int i, .int j], q => CDiv i j ∧ q (.int (i / j))
  | _, _ => False
@[simp] def oMod : Prim
  | [.int i, .int j], q => 0 < j ∧ q (.int (i % j))
  | _, _ => False
@[simp] def oPow : Prim
  | [.int i, .int j], q => CPow i j ∧ q (.int (i ^ j.toNat))
  | _, _ => False
@[simp] def oNeg : Prim
  | [.int i], q => q (.int (-i))
  | _, _ => False
theorem isA_rep {K : PySem.W.Frag} {mg : Str → Option Value} {F : Hp} {vs : List V} {xs : List D} (h : IsA K mg F vs xs) : ∀ n : Nat, IsA K mg F (List.replicate n vs).flatten (List.replicate n xs).flatten
  | 0 => .nil
  | n + 1 => by
    rw [List.replicate_succ, List.replicate_succ, List.flatten_cons, List.flatten_cons]
    exact h.append (isA_rep h n)
section
variable {X : Cx} {J : GJ}
theorem od_add : OpD X J (binaryOp .Add) oAdd := by
  intro pins s σ H x y v u Q I rx ry ⟨pr, F, ds, q, st, ia, ho, k⟩
  unfold oAdd at ho
  split at ho
  · obtain ⟨a, b, e, ha, hb⟩ := ia.two_inv
    cases e
    cases ha.int_inv
    cases hb.int_inv
    exact op_add pins s σ H _ _ v u Q I rx ry ⟨_, _, rfl, rfl, ans st k (.int _) ho⟩
  · obtain ⟨a, b, e, ha, hb⟩ := ia.two_inv
    cases e
    cases ha.int_inv
    cases hb.bl_inv
    exact op_add_ib pins s σ H _ _ v u Q I rx ry ⟨_, _, rfl, rfl, ans st k (.int _) ho⟩
  · obtain ⟨a, b, e, ha, hb⟩ := ia.two_inv
    cases e
    obtain ⟨p1, vs, rfl, h1, a1⟩ := ha.tup_inv
    obtain ⟨p2, ws, rfl, h2, a2⟩ := hb.tup_inv
    refine op_catA pins s σ H _ _ v u Q I rx ry ⟨_, _, vs, ws, rfl, rfl, same_seqT st.sub h1, same_seqT st.sub h2, ?_, ?_⟩
    · rw [a1.length, a2.length]
      exact ho.1
    · rename_i q0 xs ys
      refine ⟨fun e => ?_, fun _ e => ?_, fun _ _ p hp => ansNew st k hp (is_tup (a1.append a2)) ho.2⟩
      · subst e
        have e0 : xs = [] := List.length_eq_zero_iff.mp a1.length.symm
        subst e0
        exact ans st k (.tup h2 a2) ho.2
      · subst e
        have e0 : ys = [] := List.length_eq_zero_iff.mp a2.length.symm
        subst e0
        have := ho.2
        rw [List.append_nil] at this
        exact ans st k (.tup h1 a1) this
  · obtain ⟨a, b, e, ha, hb⟩ := ia.two_inv
    cases e
    obtain ⟨p1, vs, rfl, h1, a1⟩ := ha.lst_inv st.sub
    obtain ⟨p2, ws, rfl, h2, a2⟩ := hb.lst_inv st.sub
    refine op_cat pins s σ H _ _ v u Q I rx ry ⟨_, _, vs, ws, rfl, rfl, h1, h2, ?_, fun p hp => ansNew st k hp (is_lst (a1.append a2)) ho.2⟩
    rw [a1.length, a2.length]
    exact ho.1
  · obtain ⟨a, b, e, ha, hb⟩ := ia.two_inv
    cases e
    cases ha.str_inv
    cases hb.str_inv
    exact op_add_str pins s σ H _ _ v u Q I rx ry ⟨_, _, rfl, rfl, ho.1, ans st k (.str _) ho.2⟩
  · exact ho.elim
theorem od_sub : OpD X J (binaryOp .Sub) oSub := by
  intro pins s σ H x y v u Q I rx ry ⟨pr, F, ds, q, st, ia, ho, k⟩
  unfold oSub at ho
  split at ho
  · obtain ⟨a, b, e, ha, hb⟩ := ia.two_inv
    cases e
    cases ha.int_inv
    cases hb.int_inv
    exact op_sub pins s σ H _ _ v u Q I rx ry ⟨_, _, rfl, rfl, ans st k (.int _) ho⟩
  · exact ho.elim
theorem od_mul : OpD X J (binaryOp .Mult) oMul := by
  intro pins s σ H x y v u Q I rx ry ⟨pr, F, ds, q, st, ia, ho, k⟩
  unfold oMul at ho
  split at ho
  · obtain ⟨a, b, e, ha, hb⟩ := ia.two_inv
    cases e
    cases ha.int_inv
    cases hb.int_inv
    exact op_mul pins s σ H _ _ v u Q I rx ry ⟨_, _, rfl, rfl, ho.1, ans st k (.int _) ho.2⟩
  · obtain ⟨a, b, e, ha, hb⟩ := ia.two_inv
    cases e
    cases hb.int_inv
    obtain ⟨p1, vs, rfl, h1, a1⟩ := ha.lst_inv st.sub
    exact op_rep pins s σ H _ _ v u Q I rx ry ⟨_, _, vs, rfl, rfl, h1, ho.1, ho.2.1, by rw [a1.length]; exact ho.2.2.1, fun p hp => ansNew st k hp (is_lst (isA_rep a1 _)) ho.2.2.2⟩
  · exact ho.elim
theorem od_div : OpD X J (binaryOp .FloorDiv) oDiv := by
  intro pins s σ H x y v u Q I rx ry ⟨pr, F, ds, q, st, ia, ho, k⟩
  unfold oDiv at ho
  split at ho
  · obtain ⟨a, b, e, ha, hb⟩ := ia.two_inv
    cases e
    cases ha.int_inv
    cases hb.int_inv
    exact op_fdiv pins s σ H _ _ v u Q I rx ry ⟨_, _, rfl, rfl, ho.1, ans st k (.int _) ho.2⟩
  · exact ho.elim
theorem od_mod : OpD X J (binaryOp .Mod) oMod := by
  intro pins s σ H x y v u Q I rx ry ⟨pr, F, ds, q, st, ia, ho, k⟩
  unfold oMod at ho
  split at ho
  · obtain ⟨a, b, e, ha, hb⟩ := ia.two_inv
    cases e
    cases ha.int_inv
    cases hb.int_inv
    exact op_mod pins s σ H _ _ v u Q I rx ry ⟨_, _, rfl, rfl, ho.1, ans st k (.int _) ho.2⟩
  · exact ho.elim
theorem od_pow : OpD X J (binaryOp .Pow) oPow := by
  intro pins s σ H x y v u Q I rx ry ⟨pr, F, ds, q, st, ia, ho, k⟩
  unfold oPow at ho
  split at ho
  · obtain ⟨a, b, e, ha, hb⟩ := ia.two_inv
    cases e
    cases ha.int_inv
    cases hb.int_inv
    exact op_pow pins s σ H _ _ v u Q I rx ry ⟨_, _, rfl, rfl, ho.1, ans st k (.int _) ho.2⟩
  · exact ho.elim
theorem ud_neg : UnD X J (unaryOp .USub) oNeg := by
  intro pins s σ H x v Q I rx ⟨pr, F, ds, q, st, ia, ho, k⟩
  unfold oNeg at ho
  split at ho
  · obtain ⟨a, e, ha⟩ := ia.one_inv
    cases e
    cases ha.int_inv
    exact un_neg pins s σ H _ v Q I rx ⟨_, rfl, ans st k (.int _) ho⟩
  · exact ho.elim
end

/-! ### order, equality, in -/
@[simp] def oCmp (f : Int → Int → Bool) : Prim
  | [.int i, .int j], q => q (.bl (f i j))
  | _, _ => False
@[simp] def oLt : Prim := oCmp fun i j => decide (i < j)
@[simp] def oLe : Prim := oCmp fun i j => decide (i ≤ j)
@[simp] def oGt : Prim := oCmp fun i j => decide (j < i)
@[simp] def oGe : Prim := oCmp fun i j => decide (j ≤ i)
section
variable {X : Cx} {J : GJ}
theorem od_cmp {op : CmpOp} {f : Int → Int → Bool} (h : OpR X (compareOp op) (rI0 fun i j => .bl (f i j))) : OpD X J (compareOp op) (oCmp f) := by
  intro pins s σ H x y v u Q I rx ry ⟨pr, F, ds, q, st, ia, ho, k⟩
  unfold oCmp at ho
  split at ho
  · obtain ⟨a, b, e, ha, hb⟩ := ia.two_inv
    cases e
    cases ha.int_inv
    cases hb.int_inv
    exact h pins s σ H _ _ v u Q I rx ry ⟨_, _, rfl, rfl, ans st k (.bl _) ho⟩
  · exact ho.elim
theorem od_lt : OpD X J (compareOp .Lt) oLt := od_cmp op_lt
theorem od_le : OpD X J (compareOp .LtE) oLe := od_cmp op_le
theorem od_gt : OpD X J (compareOp .Gt) oGt := od_cmp op_gt
theorem od_ge : OpD X J (compareOp .GtE) oGe := od_cmp op_ge
end

mutual
/-- == of data -/
@[simp] def eqD : D → D → Bool
  | .non, .non => true
  | .bl a, .bl b => a == b
  | .bl a, .int j => (if a then 1 else 0) == j
  | .int i, .bl b => i == (if b then 1 else 0)
  | .int i, .int j => i == j
  | .str x, .str y => x == y
  | .lst xs, .lst ys => eqDA xs ys
  | .tup xs, .tup ys => eqDA xs ys
  | _, _ => false
@[simp] def eqDA : List D → List D → Bool
  | [], [] => true
  | x :: xs, y :: ys => eqD x y && eqDA xs ys
  | _, _ => false
end
mutual
theorem eqv_eqD : ∀ (a b : D) (p r : PyData), toPy a = some p → toPy b = some r → PyData.eqv p r = eqD a b
  | .non, b, p, r, e1, e2 => by
    cases e1
    cases b <;> simp [toPy] at e2 <;> first | (subst e2; simp [PyData.eqv, eqD]) | (obtain ⟨_, _, e2⟩ := e2; subst e2; simp [PyData.eqv, eqD])
  | .bl a, b, p, r, e1, e2 => by
    cases e1
    cases b <;> simp [toPy] at e2 <;> first | (subst e2; simp [PyData.eqv, eqD]) | (obtain ⟨_, _, e2⟩ := e2; subst e2; simp [PyData.eqv, eqD])
  | .int a, b, p, r, e1, e2 => by
    cases e1
    cases b <;> simp [toPy] at e2 <;> first | (subst e2; simp [PyData.eqv, eqD]) | (obtain ⟨_, _, e2⟩ := e2; subst e2; simp [PyData.eqv, eqD])
  | .str a, b, p, r, e1, e2 => by
    cases e1
    cases b <;> simp [toPy] at e2 <;> first | (subst e2; simp [PyData.eqv, eqD]) | (obtain ⟨_, _, e2⟩ := e2; subst e2; simp [PyData.eqv, eqD])
  | .tup xs, b, p, r, e1, e2 => by
    simp only [toPy, Option.map_eq_some_iff] at e1
    obtain ⟨ps, h1, rfl⟩ := e1
    cases b <;> simp [toPy] at e2 <;> first | (subst e2; simp [PyData.eqv, eqD]; done) | (obtain ⟨rs, h2, rfl⟩ := e2; first | (simp only [PyData.eqv, eqD]; done) | (simp only [PyData.eqv, eqD]; exact eqvA_eqDA xs _ ps rs h1 h2))
  | .lst xs, b, p, r, e1, e2 => by
    simp only [toPy, Option.map_eq_some_iff] at e1
    obtain ⟨ps, h1, rfl⟩ := e1
    cases b <;> simp [toPy] at e2 <;> first | (subst e2; simp [PyData.eqv, eqD]; done) | (obtain ⟨rs, h2, rfl⟩ := e2; first | (simp only [PyData.eqv, eqD]; done) | (simp only [PyData.eqv, eqD]; exact eqvA_eqDA xs _ ps rs h1 h2))
  | .ins _ _, _, _, _, e, _ => by simp [toPy] at e
  | .tk _, _, _, _, e, _ => by simp [toPy] at e
  | .ty _, _, _, _, e, _ => by simp [toPy] at e
  | .cls _, _, _, _, e, _ => by simp [toPy] at e
theorem eqvA_eqDA : ∀ (as bs : List D) (ps rs : List PyData), toPyA as = some ps → toPyA bs = some rs → PyData.eqvAll ps rs = eqDA as bs
  | [], bs, ps, rs, e1, e2 => by
    simp [toPyA] at e1
    subst e1
    cases bs with
    | nil =>
      simp [toPyA] at e2
      subst e2
      simp [PyData.eqvAll, eqDA]
    | cons b bs =>
      unfold toPyA at e2
      split at e2
      · cases e2
        simp [PyData.eqvAll, eqDA]
      · cases e2
  | a :: as, bs, ps, rs, e1, e2 => by
    unfold toPyA at e1
    split at e1
    · rename_i p ps' h1 h1'
      cases e1
      cases bs with
      | nil =>
        simp [toPyA] at e2
        subst e2
        simp [PyData.eqvAll, eqDA]
      | cons b bs =>
        unfold toPyA at e2
        split at e2
        · rename_i r rs' h2 h2'
          cases e2
          simp only [PyData.eqvAll, eqDA]
          rw [eqv_eqD a b p r h1 h2, eqvA_eqDA as bs ps' rs' h1' h2']
        · cases e2
    · cases e1
end

mutual
/-- data of the library's kind, nested at most n deep -/
@[simp] def okE : Nat → D → Bool
  | _, .non => true
  | _, .bl _ => true
  | _, .int _ => true
  | _, .str x => PyData.strOk x
  | n, .tup xs => decide (0 < n) && okEA (n - 1) xs
  | n, .lst xs => decide (0 < n) && okEA (n - 1) xs
  | _, .ins _ _ => false
  | _, .tk _ => false
  | _, .ty _ => false
  | _, .cls _ => false
@[simp] def okEA : Nat → List D → Bool
  | _, [] => true
  | n, d :: ds => okE n d && okEA n ds
end
mutual
theorem okE_py : ∀ (d : D) (n : Nat), okE n d = true → ∃ p, toPy d = some p ∧ p.canLay0 = true ∧ p.depth ≤ n
  | .non, n, _ => ⟨_, rfl, by simp [PyData.canLay0], by simp [PyData.depth]⟩
  | .bl _, n, _ => ⟨_, rfl, by simp [PyData.canLay0], by simp [PyData.depth]⟩
  | .int _, n, _ => ⟨_, rfl, by simp [PyData.canLay0], by simp [PyData.depth]⟩
  | .str x, n, h => ⟨_, rfl, by simpa [PyData.canLay0, okE] using h, by simp [PyData.depth]⟩
  | .tup xs, n, h => by
    simp only [okE, Bool.and_eq_true, decide_eq_true_eq] at h
    obtain ⟨ps, e, h1, h2⟩ := okEA_py xs _ h.2
    exact ⟨.tuple ps, by simp [toPy, e], by simpa [PyData.canLay0] using h1, by simp only [PyData.depth]; omega⟩
  | .lst xs, n, h => by
    simp only [okE, Bool.and_eq_true, decide_eq_true_eq] at h
    obtain ⟨ps, e, h1, h2⟩ := okEA_py xs _ h.2
    exact ⟨.list ps, by simp [toPy, e], by simpa [PyData.canLay0] using h1, by simp only [PyData.depth]; omega⟩
  | .ins _ _, _, h => by simp [okE] at h
  | .tk _, _, h => by simp [okE] at h
  | .ty _, _, h => by simp [okE] at h
  | .cls _, _, h => by simp [okE] at h
theorem okEA_py : ∀ (ds : List D) (n : Nat), okEA n ds = true → ∃ ps, toPyA ds = some ps ∧ PyData.canLayAll0 ps = true ∧ PyData.depthAll ps ≤ n
  | [], n, _ => ⟨[], by simp [toPyA], by simp [PyData.canLayAll0], by simp [PyData.depthAll]⟩
  | d :: ds, n, h => by
    simp only [okEA, Bool.and_eq_true] at h
    obtain ⟨p, e, h1, h2⟩ := okE_py d n h.1
    obtain ⟨ps, e', h1', h2'⟩ := okEA_py ds n h.2
    exact ⟨p :: ps, by simp [toPyA, e, e'], by simp [PyData.canLayAll0, h1, h1'], by simp only [PyData.depthAll]; omega⟩
end
theorem okE_shaped {d : D} (h : okE 60 d = true) : ∃ p, toPy d = some p ∧ SeqAt.shaped p = true := by
  obtain ⟨p, e, h1, h2⟩ := okE_py d 60 h
  refine ⟨p, e, ?_⟩
  unfold SeqAt.shaped
  rw [h1, Bool.true_and]
  exact decide_eq_true (by omega)

@[simp] def oEq : Prim
  | [a, b], q => ((okE 60 a = true ∧ okE 60 b = true) ∨ ∃ x y, a = .str x ∧ b = .str y) ∧ q (.bl (eqD a b))
  | _, _ => False
@[simp] def oNe : Prim
  | [a, b], q => ((okE 60 a = true ∧ okE 60 b = true) ∨ ∃ x y, a = .str x ∧ b = .str y) ∧ q (.bl (!eqD a b))
  | _, _ => False
def inD (x : D) (ys : List D) : Bool := ys.any fun y => eqD y x
@[simp] def oIn : Prim
  | [x, .lst ys], q => okE 60 x = true ∧ okE 60 (.lst ys) = true ∧ q (.bl (inD x ys))
  | [x, .tup ys], q => okE 60 x = true ∧ okE 60 (.tup ys) = true ∧ q (.bl (inD x ys))
  | _, _ => False
@[simp] def oNotIn : Prim
  | [x, .lst ys], q => okE 60 x = true ∧ okE 60 (.lst ys) = true ∧ q (.bl (!inD x ys))
  | [x, .tup ys], q => okE 60 x = true ∧ okE 60 (.tup ys) = true ∧ q (.bl (!inD x ys))
  | _, _ => False
theorem any_inD {x : D} {p : PyData} (hx : toPy x = some p) : ∀ {ys : List D} {ps : List PyData}, toPyA ys = some ps → (ps.any fun z => PyData.eqv z p) = inD x ys
  | [], _, e => by
    simp [toPyA] at e
    subst e
    rfl
  | y :: ys, _, e => by
    unfold toPyA at e
    split at e
    · rename_i r rs h1 h2
      cases e
      have ih := any_inD hx h2
      unfold inD at ih ⊢
      rw [List.any_cons, List.any_cons, eqv_eqD y x r p h1 hx, ih]
    · cases e
section
variable {X : Cx} {J : GJ}
theorem od_eq (hu : X.A.units + 64 < cLine) : OpD X J (compareOp .Eq) oEq := by
  intro pins s σ H x y v u Q I rx ry ⟨pr, F, ds, q, st, ia, ho, k⟩
  unfold oEq at ho
  split at ho
  · obtain ⟨a, b, e, ha, hb⟩ := ia.two_inv
    cases e
    rcases ho.1 with h | ⟨z, w, rfl, rfl⟩
    · obtain ⟨p, e1, s1⟩ := okE_shaped h.1
      obtain ⟨r, e2, s2⟩ := okE_shaped h.2
      refine op_eqD hu pins s σ H _ _ v u Q I rx ry ⟨p, r, ha.toDp st.sub e1, hb.toDp st.sub e2, s1, s2, ?_⟩
      rw [eqv_eqD _ _ p r e1 e2]
      exact ans st k (.bl _) ho.2
    · cases ha.str_inv
      cases hb.str_inv
      refine op_eq pins s σ H _ _ v u Q I rx ry ⟨rfl, ?_⟩
      have e : decide (V.str z = V.str w) = eqD (.str z) (.str w) := by
        show _ = (z == w)
        rw [Bool.eq_iff_iff, decide_eq_true_eq, beq_iff_eq]
        exact ⟨fun h => V.str.inj h, fun h => by rw [h]⟩
      rw [e]
      exact ans st k (.bl _) ho.2
  · exact ho.elim
theorem od_ne (hu : X.A.units + 64 < cLine) : OpD X J (compareOp .NotEq) oNe := by
  intro pins s σ H x y v u Q I rx ry ⟨pr, F, ds, q, st, ia, ho, k⟩
  unfold oNe at ho
  split at ho
  · obtain ⟨a, b, e, ha, hb⟩ := ia.two_inv
    cases e
    rcases ho.1 with h | ⟨z, w, rfl, rfl⟩
    · obtain ⟨p, e1, s1⟩ := okE_shaped h.1
      obtain ⟨r, e2, s2⟩ := okE_shaped h.2
      refine op_neD hu pins s σ H _ _ v u Q I rx ry ⟨p, r, ha.toDp st.sub e1, hb.toDp st.sub e2, s1, s2, ?_⟩
      rw [eqv_eqD _ _ p r e1 e2]
      exact ans st k (.bl _) ho.2
    · cases ha.str_inv
      cases hb.str_inv
      refine op_ne pins s σ H _ _ v u Q I rx ry ⟨rfl, ?_⟩
      have e : decide (V.str z = V.str w) = eqD (.str z) (.str w) := by
        show _ = (z == w)
        rw [Bool.eq_iff_iff, decide_eq_true_eq, beq_iff_eq]
        exact ⟨fun h => V.str.inj h, fun h => by rw [h]⟩
      rw [e]
      exact ans st k (.bl _) ho.2
  · exact ho.elim
theorem od_in (hu : X.A.units + 65 < cLine) : OpD X J (compareOp .In) oIn := by
  intro pins s σ H x y v u Q I rx ry ⟨pr, F, ds, q, st, ia, ho, k⟩
  unfold oIn at ho
  split at ho
  · obtain ⟨a, b, e, ha, hb⟩ := ia.two_inv
    cases e
    obtain ⟨p, e1, s1⟩ := okE_shaped ho.1
    obtain ⟨r, e2, s2⟩ := okE_shaped ho.2.1
    have e3 := e2
    simp only [toPy, Option.map_eq_some_iff] at e3
    obtain ⟨rs, e4, rfl⟩ := e3
    refine op_inD hu pins s σ H _ _ v u Q I rx ry ⟨p, rs, ha.toDp st.sub e1, hb.toDp st.sub e2, s1, s2, ?_⟩
    rw [any_inD e1 e4]
    exact ans st k (.bl _) ho.2.2
  · obtain ⟨a, b, e, ha, hb⟩ := ia.two_inv
    cases e
    obtain ⟨p, e1, s1⟩ := okE_shaped ho.1
    obtain ⟨r, e2, s2⟩ := okE_shaped ho.2.1
    have e3 := e2
    simp only [toPy, Option.map_eq_some_iff] at e3
    obtain ⟨rs, e4, rfl⟩ := e3
    obtain ⟨as, r1⟩ := Dp.reads I p _ v (ha.toDp st.sub e1) rx
    obtain ⟨bs, r2⟩ := Dp.reads I (.tuple rs) _ u (hb.toDp st.sub e2) ry
    refine SeqAt.in_tuple_reads r2 r1 (SeqAt.canLay_of_shaped s2) (SeqAt.canLay_of_shaped s1) ?_ ⟨.bl _, H, I, rfl, ?_⟩
    · have h1 := SeqAt.depth_of_shaped s1
      have := Nat.min_le_right (PyData.depthAll rs) p.depth
      omega
    · rw [any_inD e1 e4]
      exact ans st k (.bl _) ho.2.2
  · exact ho.elim
theorem od_notIn (hu : X.A.units + 65 < cLine) : OpD X J (compareOp .NotIn) oNotIn := by
  intro pins s σ H x y v u Q I rx ry ⟨pr, F, ds, q, st, ia, ho, k⟩
  unfold oNotIn at ho
  split at ho
  · obtain ⟨a, b, e, ha, hb⟩ := ia.two_inv
    cases e
    obtain ⟨p, e1, s1⟩ := okE_shaped ho.1
    obtain ⟨r, e2, s2⟩ := okE_shaped ho.2.1
    have e3 := e2
    simp only [toPy, Option.map_eq_some_iff] at e3
    obtain ⟨rs, e4, rfl⟩ := e3
    refine op_notInD hu pins s σ H _ _ v u Q I rx ry ⟨p, rs, ha.toDp st.sub e1, hb.toDp st.sub e2, s1, s2, ?_⟩
    rw [any_inD e1 e4]
    exact ans st k (.bl _) ho.2.2
  · obtain ⟨a, b, e, ha, hb⟩ := ia.two_inv
    cases e
    obtain ⟨p, e1, s1⟩ := okE_shaped ho.1
    obtain ⟨r, e2, s2⟩ := okE_shaped ho.2.1
    have e3 := e2
    simp only [toPy, Option.map_eq_some_iff] at e3
    obtain ⟨rs, e4, rfl⟩ := e3
    obtain ⟨as, r1⟩ := Dp.reads I p _ v (ha.toDp st.sub e1) rx
    obtain ⟨bs, r2⟩ := Dp.reads I (.tuple rs) _ u (hb.toDp st.sub e2) ry
    refine SeqAt.notIn_tuple_reads r2 r1 (SeqAt.canLay_of_shaped s2) (SeqAt.canLay_of_shaped s1) ?_ ⟨.bl _, H, I, rfl, ?_⟩
    · have h1 := SeqAt.depth_of_shaped s1
      have := Nat.min_le_right (PyData.depthAll rs) p.depth
      omega
    · rw [any_inD e1 e4]
      exact ans st k (.bl _) ho.2.2
  · exact ho.elim
end

/-! ### subscripts, slices -/
@[simp] def oIx : Prim
  | [.lst xs, .int i], q => ∃ d, atI xs i = some d ∧ q d
  | [.tup xs, .int i], q => ∃ d, atI xs i = some d ∧ q d
  | _, _ => False
def cutD {α : Type} (xs : List α) (lo hi : Option Int) : List α := (xs.drop (HT.sIx xs.length 0 lo)).take (HT.sIx xs.length xs.length hi - HT.sIx xs.length 0 lo)
/-- a slice by data -/
abbrev PrimS := D → Option Int → Option Int → (D → Prop) → Prop
@[simp] def oSl : PrimS
  | .lst xs, lo, hi, q => q (.lst (cutD xs lo hi))
  | .tup xs, lo, hi, q => q (.tup (cutD xs lo hi))
  | _, _, _, _ => False
def rPS (K : PySem.W.Frag) (mg : Str → Option Value) (J : GJ) (O : PrimS) : V → Option Int → Option Int → Hp → VK → Prop := fun v lo hi H Q =>
  ∃ (pr F : Hp) (d : D) (q : D → Prop), St8 J pr F H ∧ IsB K mg F H v d ∧ O d lo hi q ∧ ∀ d z F' H', Stp J pr F H F' H' → Is K mg F' z d → q d → Q z H'
def SlD (X : Cx) (J : GJ) (O : PrimS) : Prop := SlR X (rPS X.K X.mg J O)
theorem isA_atI {K : PySem.W.Frag} {mg : Str → Option Value} {F : Hp} {vs : List V} {xs : List D} (h : IsA K mg F vs xs) {i : Int} {d : D} (e : atI xs i = some d) : ∃ v, atI vs i = some v ∧ Is K mg F v d := by
  unfold atI at e ⊢
  rw [h.length]
  cases hx : ixN xs.length i with
  | none =>
    rw [hx] at e
    cases e
  | some j =>
    rw [hx] at e
    exact h.get e
theorem isA_cut {K : PySem.W.Frag} {mg : Str → Option Value} {F : Hp} {vs : List V} {xs : List D} (h : IsA K mg F vs xs) (lo hi : Option Int) : IsA K mg F (cutV vs lo hi) (cutD xs lo hi) := by
  unfold cutV cutD
  rw [h.length]
  exact (h.drop _).take _
theorem cutD_whole {α : Type} (xs : List α) (lo hi : Option Int) (h : HT.sIx xs.length 0 lo = 0 ∧ HT.sIx xs.length xs.length hi = xs.length) : cutD xs lo hi = xs := by
  unfold cutD
  rw [h.1, h.2, List.drop_zero, Nat.sub_zero, List.take_length]
section
variable {X : Cx} {J : GJ}
theorem od_ix : IxD X J oIx := by
  intro ea eb pins s σ H x y v u Q I rx ry ⟨pr, F, ds, q, st, ia, ho, k⟩ hs
  unfold oIx at ho
  split at ho
  · obtain ⟨a, b, e, ha, hb⟩ := ia.two_inv
    cases e
    cases hb.int_inv
    obtain ⟨p1, vs, rfl, h1, a1⟩ := ha.lst_inv st.sub
    obtain ⟨d, e, ho⟩ := ho
    obtain ⟨z, e2, hz⟩ := isA_atI a1 e
    exact ix_list ea eb pins s σ H _ _ v u Q I rx ry ⟨_, vs, _, z, rfl, rfl, SqL.of h1, e2, ans st k hz ho⟩ hs
  · obtain ⟨a, b, e, ha, hb⟩ := ia.two_inv
    cases e
    cases hb.int_inv
    obtain ⟨p1, vs, rfl, h1, a1⟩ := ha.tup_inv
    obtain ⟨d, e, ho⟩ := ho
    obtain ⟨z, e2, hz⟩ := isA_atI a1 e
    exact ix_tup ea eb pins s σ H _ _ v u Q I rx ry ⟨_, vs, _, z, rfl, rfl, same_seqT st.sub h1, e2, ans st k hz ho⟩ hs
  · exact ho.elim
theorem od_sl : SlD X J oSl := by
  intro pins s σ H x v vl vu lo hi sl Q I rx hs pl pu ⟨pr, F, d, q, st, ha, ho, k⟩
  unfold oSl at ho
  split at ho
  · obtain ⟨p1, vs, rfl, h1, a1⟩ := ha.lst_inv st.sub
    exact sl_list pins s σ H _ v vl vu lo hi sl Q I rx hs pl pu ⟨_, vs, rfl, SqL.of h1, fun p hp => ansNew st k hp (is_lst (isA_cut a1 lo hi)) ho⟩
  · obtain ⟨p1, vs, rfl, h1, a1⟩ := ha.tup_inv
    refine sl_tupA pins s σ H _ v vl vu _ _ sl Q I rx hs pl pu ⟨_, vs, rfl, same_seqT st.sub h1, fun w => ?_, fun _ p hp => ansNew st k hp (is_tup (isA_cut a1 _ _)) ho⟩
    rw [a1.length] at w
    rw [cutD_whole _ _ _ w] at ho
    exact ans st k (.tup h1 a1) ho
  · exact ho.elim
end
end DL

/-! DL2: built-in functions by data. -/
namespace DL
open PySem PySem.Spec PyProof.Rows L2

/-! ### len, list, tuple, int, abs -/
@[simp] def oLen : Prim
  | [.lst xs], q => q (.int xs.length)
  | [.tup xs], q => q (.int xs.length)
  | [.str x], q => x.length ≤ sizeLine ∧ q (.int x.length)
  | _, _ => False
@[simp] def oList : Prim
  | [.lst xs], q => q (.lst xs)
  | [.tup xs], q => q (.lst xs)
  | _, _ => False
@[simp] def oTuple : Prim
  | [.lst xs], q => q (.tup xs)
  | [.tup xs], q => q (.tup xs)
  | _, _ => False
@[simp] def oInt : Prim
  | [.int i], q => q (.int i)
  | [.bl k], q => q (.int (if k then 1 else 0))
  | _, _ => False
@[simp] def oAbs : Prim
  | [.int i], q => q (.int (if i < 0 then -i else i))
  | _, _ => False
section
variable {X : Cx} {J : GJ}
theorem cd_len : CallD X J (.builtin "len") oLen := by
  intro pins s σ H xs us Q I r ⟨pr, F, ds, q, st, ia, ho, k⟩
  unfold oLen at ho
  split at ho
  · obtain ⟨a, e, ha⟩ := ia.one_inv
    cases e
    obtain ⟨p1, vs, rfl, h1, a1⟩ := ha.lst_inv st.sub
    refine call_len_seq pins s σ H _ us Q I r ⟨_, vs, rfl, .inl (SqL.of h1), ?_⟩
    rw [a1.length]
    exact ans st k (.int _) ho
  · obtain ⟨a, e, ha⟩ := ia.one_inv
    cases e
    obtain ⟨p1, vs, rfl, h1, a1⟩ := ha.tup_inv
    refine call_len_seq pins s σ H _ us Q I r ⟨_, vs, rfl, .inr (same_seqT st.sub h1), ?_⟩
    rw [a1.length]
    exact ans st k (.int _) ho
  · obtain ⟨a, e, ha⟩ := ia.one_inv
    cases e
    cases ha.str_inv
    exact call_len_str pins s σ H _ us Q I r ⟨_, rfl, ho.1, ans st k (.int _) ho.2⟩
  · exact ho.elim
theorem cd_list : CallD X J (.type "list") oList := by
  intro pins s σ H xs us Q I r ⟨pr, F, ds, q, st, ia, ho, k⟩
  unfold oList at ho
  split at ho
  · obtain ⟨a, e, ha⟩ := ia.one_inv
    cases e
    obtain ⟨p1, vs, rfl, h1, a1⟩ := ha.lst_inv st.sub
    exact call_list_of pins s σ H _ us Q I r ⟨_, vs, rfl, .inl (SqL.of h1), fun p hp => ansNew st k hp (is_lst a1) ho⟩
  · obtain ⟨a, e, ha⟩ := ia.one_inv
    cases e
    obtain ⟨p1, vs, rfl, h1, a1⟩ := ha.tup_inv
    exact call_list_of pins s σ H _ us Q I r ⟨_, vs, rfl, .inr (same_seqT st.sub h1), fun p hp => ansNew st k hp (is_lst a1) ho⟩
  · exact ho.elim
theorem cd_tuple : CallD X J (.type "tuple") oTuple := by
  intro pins s σ H xs us Q I r ⟨pr, F, ds, q, st, ia, ho, k⟩
  unfold oTuple at ho
  split at ho
  · obtain ⟨a, e, ha⟩ := ia.one_inv
    cases e
    obtain ⟨p1, vs, rfl, h1, a1⟩ := ha.lst_inv st.sub
    exact call_tuple_of pins s σ H _ us Q I r ⟨_, vs, rfl, .inl ⟨SqL.of h1, fun p hp => ansNew st k hp (is_tup a1) ho⟩⟩
  · obtain ⟨a, e, ha⟩ := ia.one_inv
    cases e
    obtain ⟨p1, vs, rfl, h1, a1⟩ := ha.tup_inv
    exact call_tuple_of pins s σ H _ us Q I r ⟨_, vs, rfl, .inr ⟨same_seqT st.sub h1, ans st k (.tup h1 a1) ho⟩⟩
  · exact ho.elim
theorem cd_int : CallD X J (.type "int") oInt := by
  intro pins s σ H xs us Q I r ⟨pr, F, ds, q, st, ia, ho, k⟩
  unfold oInt at ho
  split at ho
  · obtain ⟨a, e, ha⟩ := ia.one_inv
    cases e
    cases ha.int_inv
    exact call_int1 pins s σ H _ us Q I r (.inl ⟨_, rfl, ans st k (.int _) ho⟩)
  · obtain ⟨a, e, ha⟩ := ia.one_inv
    cases e
    cases ha.bl_inv
    exact call_int1 pins s σ H _ us Q I r (.inr ⟨_, rfl, ans st k (.int _) ho⟩)
  · exact ho.elim
theorem cd_abs : CallD X J (.builtin "abs") oAbs := by
  intro pins s σ H xs us Q I r ⟨pr, F, ds, q, st, ia, ho, k⟩
  unfold oAbs at ho
  split at ho
  · obtain ⟨a, e, ha⟩ := ia.one_inv
    cases e
    cases ha.int_inv
    exact call_abs pins s σ H _ us Q I r ⟨_, rfl, ans st k (.int _) ho⟩
  · exact ho.elim
end

/-! ### all, any, sum, max, min of lists -/
@[simp] def oAll : Prim
  | [.lst xs], q => ∃ bs : List Bool, xs = bs.map D.bl ∧ q (.bl (bs.all id))
  | _, _ => False
@[simp] def oAny : Prim
  | [.lst xs], q => ∃ bs : List Bool, xs = bs.map D.bl ∧ q (.bl (bs.any id))
  | _, _ => False
@[simp] def oSum : Prim
  | [.lst xs], q => ∃ ns : List Int, xs = ns.map D.int ∧ q (.int ns.sum)
  | _, _ => False
@[simp] def oMax : Prim
  | [.lst xs], q => ∃ ns : List Int, xs = ns.map D.int ∧ 0 < ns.length ∧ ∀ m, m ∈ ns → (∀ y, y ∈ ns → y ≤ m) → q (.int m)
  | [.int i, .int j], q => q (.int (if j > i then j else i))
  | _, _ => False
@[simp] def oMin : Prim
  | [.lst xs], q => ∃ ns : List Int, xs = ns.map D.int ∧ 0 < ns.length ∧ ∀ m, m ∈ ns → (∀ y, y ∈ ns → m ≤ y) → q (.int m)
  | [.int i, .int j], q => q (.int (if j < i then j else i))
  | _, _ => False
section
variable {X : Cx} {J : GJ}
theorem cd_all (hc : X.calm = true) : CallD X J (.builtin "all") oAll := by
  intro pins s σ H xs us Q I r ⟨pr, F, ds, q, st, ia, ho, k⟩
  unfold oAll at ho
  split at ho
  · obtain ⟨a, e, ha⟩ := ia.one_inv
    cases e
    obtain ⟨p1, vs, rfl, h1, a1⟩ := ha.lst_inv st.sub
    obtain ⟨bs, rfl, ho⟩ := ho
    rw [a1.bls] at h1
    exact cr_all hc pins s σ H _ us Q I r ⟨_, bs, rfl, SqL.of h1, ans st k (.bl _) ho⟩
  · exact ho.elim
theorem cd_any (hc : X.calm = true) : CallD X J (.builtin "any") oAny := by
  intro pins s σ H xs us Q I r ⟨pr, F, ds, q, st, ia, ho, k⟩
  unfold oAny at ho
  split at ho
  · obtain ⟨a, e, ha⟩ := ia.one_inv
    cases e
    obtain ⟨p1, vs, rfl, h1, a1⟩ := ha.lst_inv st.sub
    obtain ⟨bs, rfl, ho⟩ := ho
    rw [a1.bls] at h1
    exact cr_any hc pins s σ H _ us Q I r ⟨_, bs, rfl, SqL.of h1, ans st k (.bl _) ho⟩
  · exact ho.elim
theorem cd_sum (hc : X.calm = true) : CallD X J (.builtin "sum") oSum := by
  intro pins s σ H xs us Q I r ⟨pr, F, ds, q, st, ia, ho, k⟩
  unfold oSum at ho
  split at ho
  · obtain ⟨a, e, ha⟩ := ia.one_inv
    cases e
    obtain ⟨p1, vs, rfl, h1, a1⟩ := ha.lst_inv st.sub
    obtain ⟨bs, rfl, ho⟩ := ho
    rw [a1.ints] at h1
    exact cr_sum hc pins s σ H _ us Q I r ⟨_, bs, rfl, SqL.of h1, ans st k (.int _) ho⟩
  · exact ho.elim
theorem cd_max (hc : X.calm = true) : CallD X J (.builtin "max") oMax := by
  intro pins s σ H xs us Q I r ⟨pr, F, ds, q, st, ia, ho, k⟩
  unfold oMax at ho
  split at ho
  · obtain ⟨a, e, ha⟩ := ia.one_inv
    cases e
    obtain ⟨p1, vs, rfl, h1, a1⟩ := ha.lst_inv st.sub
    obtain ⟨bs, rfl, hl, ho⟩ := ho
    rw [a1.ints] at h1
    exact cr_max hc pins s σ H _ us Q I r ⟨_, bs, rfl, SqL.of h1, hl, fun m h2 h3 => ans st k (.int _) (ho m h2 h3)⟩
  · obtain ⟨a, b, e, ha, hb⟩ := ia.two_inv
    cases e
    cases ha.int_inv
    cases hb.int_inv
    exact call_max2 hc pins s σ H _ us Q I r ⟨_, _, rfl, ans st k (.int _) ho⟩
  · exact ho.elim
theorem cd_min (hc : X.calm = true) : CallD X J (.builtin "min") oMin := by
  intro pins s σ H xs us Q I r ⟨pr, F, ds, q, st, ia, ho, k⟩
  unfold oMin at ho
  split at ho
  · obtain ⟨a, e, ha⟩ := ia.one_inv
    cases e
    obtain ⟨p1, vs, rfl, h1, a1⟩ := ha.lst_inv st.sub
    obtain ⟨bs, rfl, hl, ho⟩ := ho
    rw [a1.ints] at h1
    exact cr_min hc pins s σ H _ us Q I r ⟨_, bs, rfl, SqL.of h1, hl, fun m h2 h3 => ans st k (.int _) (ho m h2 h3)⟩
  · obtain ⟨a, b, e, ha, hb⟩ := ia.two_inv
    cases e
    cases ha.int_inv
    cases hb.int_inv
    exact call_min2 hc pins s σ H _ us Q I r ⟨_, _, rfl, ans st k (.int _) ho⟩
  · exact ho.elim
end

/-! ### isinstance with a built-in class -/
def tyOf : D → Option String
  | .non => some "NoneType"
  | .bl _ => some "bool"
  | .int _ => some "int"
  | .str _ => some "str"
  | .tup _ => some "tuple"
  | .lst _ => some "list"
  | _ => none
def isiB (a T : String) : Bool := a == T || (a == "bool" && T == "int")
def isiT : List String := ["int", "bool", "tuple", "str", "list"]
theorem kit_isi : ∀ a ∈ ["NoneType", "bool", "int", "str", "tuple", "list"], ∀ T ∈ isiT, kitB a T = some (isiB a T) := by decide +kernel
@[simp] def isiD : D → String → Bool
  | .bl _, T => T == "bool" || T == "int"
  | .int _, T => T == "int"
  | .str _, T => T == "str"
  | .tup _, T => T == "tuple"
  | .lst _, T => T == "list"
  | _, _ => false
@[simp] def isPl : D → Bool
  | .non | .bl _ | .int _ | .str _ | .tup _ | .lst _ => true
  | _ => false
@[simp] def oIsi : Prim
  | [d, .ty T], q => isPl d = true ∧ isiT.contains T = true ∧ q (.bl (isiD d T))
  | _, _ => False
theorem isi_eq {d : D} {T : String} (h : isPl d = true) (hT : T ∈ isiT) : ∃ a, tyOf d = some a ∧ kitB a T = some (isiD d T) := by
  have key : ∀ a ∈ ["NoneType", "bool", "int", "str", "tuple", "list"], kitB a T = some (isiB a T) := fun a ha => kit_isi a ha T hT
  have nn : (("NoneType" : String) == T) = false := by
    simp only [isiT, List.mem_cons, List.not_mem_nil, or_false] at hT
    rcases hT with rfl | rfl | rfl | rfl | rfl <;> decide
  cases d with
  | non => exact ⟨_, rfl, by rw [key _ (by decide)]; simp [isiB, isiD, nn]⟩
  | bl b =>
    refine ⟨_, rfl, by rw [key _ (by decide)]; simp only [isiB, isiD]; congr 1; rw [Bool.beq_comm (a := ("bool" : String))] <;> simp [Bool.beq_comm]⟩
  | int i => exact ⟨_, rfl, by rw [key _ (by decide)]; simp [isiB, isiD, Bool.beq_comm]⟩
  | str x => exact ⟨_, rfl, by rw [key _ (by decide)]; simp [isiB, isiD, Bool.beq_comm]⟩
  | tup xs => exact ⟨_, rfl, by rw [key _ (by decide)]; simp [isiB, isiD, Bool.beq_comm]⟩
  | lst xs => exact ⟨_, rfl, by rw [key _ (by decide)]; simp [isiB, isiD, Bool.beq_comm]⟩
  | ins _ _ => cases h
  | tk _ => cases h
  | ty _ => cases h
  | cls _ => cases h
theorem tyX_of {K : PySem.W.Frag} {mg : Str → Option Value} {F H : Hp} {v : V} {d : D} {a : String} (s : Same F H) (h : IsB K mg F H v d) (e : tyOf d = some a) : TyX K H v (.type a) := by
  cases d with
  | non =>
    cases e
    cases h.non_inv
    exact .base .non
  | bl b =>
    cases e
    cases h.bl_inv
    exact .base (.bl _)
  | int i =>
    cases e
    cases h.int_inv
    exact .base (.int _)
  | str x =>
    cases e
    cases h.str_inv
    exact .base (.str _)
  | tup xs =>
    cases e
    obtain ⟨p, vs, rfl, h1, _⟩ := h.tup_inv
    rcases same_seqT s h1 with (h1 | ⟨o, h1⟩) | ⟨o, its, n, h1, h2, _⟩
    · exact .base (.tup h1)
    · exact .fTuple h1
    · exact .kTuple h1 h2
  | lst xs =>
    cases e
    obtain ⟨p, vs, rfl, h1, _⟩ := h.lst_inv s
    exact .base (.lst h1)
  | ins _ _ => cases e
  | tk _ => cases e
  | ty _ => cases e
  | cls _ => cases e
section
variable {X : Cx} {J : GJ}
theorem cd_isi : CallD X J (.builtin "isinstance") oIsi := by
  intro pins s σ H xs us Q I r ⟨pr, F, ds, q, st, ia, ho, k⟩
  unfold oIsi at ho
  split at ho
  · obtain ⟨a, b, e, ha, hb⟩ := ia.two_inv
    cases e
    cases hb.ty_inv
    obtain ⟨h1, h2, ho⟩ := ho
    obtain ⟨t, e1, e2⟩ := isi_eq h1 (by simpa using h2)
    exact call_isi pins s σ H _ us Q I r ⟨_, _, .type t, .type _, _, rfl, .ty _, tyX_of st.sub ha e1, kit_ty e2, ans st k (.bl _) ho⟩
  · exact ho.elim
end

/-! ### repr -/
mutual
/-- its ints are short enough to be written -/
@[simp] def okS : D → Bool
  | .int i => decide (i.natAbs.log2 < 1920)
  | .tup xs => okSA xs
  | .lst xs => okSA xs
  | _ => true
@[simp] def okSA : List D → Bool
  | [] => true
  | d :: ds => okS d && okSA ds
end
mutual
/-- at most so many signs are written -/
def rl : D → Nat
  | .int _ => 1921
  | .str x => (reprText x).length
  | .tup xs => rlA xs + 4
  | .lst xs => rlA xs + 4
  | _ => 5
def rlA : List D → Nat
  | [] => 0
  | d :: ds => rl d + 2 + rlA ds
end
theorem listText_le (ts : List Str) : (listText ts).length ≤ piled ts + 4 := by
  unfold listText
  rw [strLen_append]
  have e2 : (("]" : String) : Str).length = 1 := rfl
  rw [e2]
  cases ts with
  | nil =>
    show (("[" : String) : Str).length + 1 ≤ _
    have e1 : (("[" : String) : Str).length = 1 := rfl
    omega
  | cons t r =>
    show (textFrom 1 (("[" : Str) ++ (if 0 > 0 then ", " else "" : String) ++ t) r).length + 1 ≤ _
    rw [textFrom_length_pos r 1 _ (by decide), strLen_append, strLen_append, piled_cons]
    have e1 : (("[" : String) : Str).length = 1 := rfl
    have e3 : (((if (0:Nat) > 0 then ", " else "" : String)) : Str).length = 0 := rfl
    rw [e1, e3]
    omega
theorem tupleText_le (ts : List Str) : (tupleText ts).length ≤ piled ts + 4 := by
  unfold tupleText
  rw [strLen_append, strLen_append]
  have e1 : (("(" : String) : Str).length = 1 := rfl
  have e3 : (((if ts.length == 1 then ",)" else ")" : String) : Str)).length ≤ 2 := by split <;> decide
  rw [e1]
  by_cases h : ts = []
  · subst h
    have : (Str.join ", " ([] : List Str)).length = 0 := rfl
    omega
  · have := join_length_add ts h
    omega
mutual
theorem shown_le : ∀ (d : D) (p : PyData), toPy d = some p → okS d = true → p.shown.length ≤ rl d
  | .non, _, e, _ => by
    cases e
    simp only [PyData.shown, rl]
    decide
  | .bl b, _, e, _ => by
    cases e
    simp only [PyData.shown, rl]
    cases b <;> decide
  | .int i, _, e, h => by
    cases e
    simp only [PyData.shown, rl]
    exact int_text_len_1921 (by simpa [okS] using h)
  | .str x, _, e, _ => by
    cases e
    simp only [PyData.shown, rl]
    exact Nat.le_refl _
  | .tup xs, _, e, h => by
    simp only [toPy, Option.map_eq_some_iff] at e
    obtain ⟨ps, e1, rfl⟩ := e
    simp only [PyData.shown, rl]
    have := shownA_le xs ps e1 (by simpa [okS] using h)
    have := tupleText_le (PyData.shownAll ps)
    omega
  | .lst xs, _, e, h => by
    simp only [toPy, Option.map_eq_some_iff] at e
    obtain ⟨ps, e1, rfl⟩ := e
    simp only [PyData.shown, rl]
    have := shownA_le xs ps e1 (by simpa [okS] using h)
    have := listText_le (PyData.shownAll ps)
    omega
  | .ins _ _, _, e, _ => by simp [toPy] at e
  | .tk _, _, e, _ => by simp [toPy] at e
  | .ty _, _, e, _ => by simp [toPy] at e
  | .cls _, _, e, _ => by simp [toPy] at e
theorem shownA_le : ∀ (ds : List D) (ps : List PyData), toPyA ds = some ps → okSA ds = true → piled (PyData.shownAll ps) ≤ rlA ds
  | [], _, e, _ => by
    simp [toPyA] at e
    subst e
    simp [PyData.shownAll, piled, rlA]
  | d :: ds, _, e, h => by
    unfold toPyA at e
    split at e
    · rename_i p ps e1 e2
      cases e
      simp only [okSA, Bool.and_eq_true] at h
      simp only [PyData.shownAll, piled_cons, rlA]
      have := shown_le d p e1 h.1
      have := shownA_le ds ps e2 h.2
      omega
    · cases e
end
mutual
theorem showable_of : ∀ (d : D) (p : PyData), toPy d = some p → okS d = true → p.showable = true
  | .non, _, e, _ => by
    cases e
    simp [PyData.showable]
  | .bl b, _, e, _ => by
    cases e
    simp [PyData.showable]
  | .int i, _, e, h => by
    cases e
    simpa [PyData.showable, okS] using h
  | .str x, _, e, _ => by
    cases e
    simp [PyData.showable]
  | .tup xs, _, e, h => by
    simp only [toPy, Option.map_eq_some_iff] at e
    obtain ⟨ps, e1, rfl⟩ := e
    simp only [PyData.showable]
    exact showableA_of xs ps e1 (by simpa [okS] using h)
  | .lst xs, _, e, h => by
    simp only [toPy, Option.map_eq_some_iff] at e
    obtain ⟨ps, e1, rfl⟩ := e
    simp only [PyData.showable]
    exact showableA_of xs ps e1 (by simpa [okS] using h)
  | .ins _ _, _, e, _ => by simp [toPy] at e
  | .tk _, _, e, _ => by simp [toPy] at e
  | .ty _, _, e, _ => by simp [toPy] at e
  | .cls _, _, e, _ => by simp [toPy] at e
theorem showableA_of : ∀ (ds : List D) (ps : List PyData), toPyA ds = some ps → okSA ds = true → PyData.showableAll ps = true
  | [], _, e, _ => by
    simp [toPyA] at e
    subst e
    simp [PyData.showableAll]
  | d :: ds, _, e, h => by
    unfold toPyA at e
    split at e
    · rename_i p ps e1 e2
      cases e
      simp only [okSA, Bool.and_eq_true] at h
      simp only [PyData.showableAll, Bool.and_eq_true]
      exact ⟨showable_of d p e1 h.1, showableA_of ds ps e2 h.2⟩
    · cases e
end
def shownD (d : D) : Str := match toPy d with
  | some p => p.shown
  | none => ""
@[simp] def oRepr : Prim
  | [d], q => okE 60 d = true ∧ okS d = true ∧ rl d ≤ sizeLine ∧ q (.str (shownD d))
  | _, _ => False
section
variable {X : Cx} {J : GJ}
theorem cd_repr (hg : X.A.guards = some []) (hu : X.A.units + 64 < cLine) : CallD X J (.builtin "repr") oRepr := by
  intro pins s σ H xs us Q I r ⟨pr, F, ds, q, st, ia, ho, k⟩
  unfold oRepr at ho
  split at ho
  · rename_i q0 d
    obtain ⟨a, e, ha⟩ := ia.one_inv
    cases e
    obtain ⟨u, rfl, ru⟩ := vals1 r
    obtain ⟨h1, h2, h3, ho⟩ := ho
    obtain ⟨p, e1, c1, c2⟩ := okE_py d 60 h1
    have hz : p.shown.length ≤ sizeLine := Nat.le_trans (shown_le d p e1 h2) h3
    have hsh : shownD d = p.shown := by
      unfold shownD
      rw [e1]
    rw [hsh] at ho
    have dp := ha.toDp st.sub e1
    obtain ⟨as, rd⟩ := Dp.reads I p a u dp ru
    have fin : ∀ h' tk t, (∀ b o, s.heap.get? b = some o → h'.get? b = some o) → EP X pins σ Q (.str p.shown t) { s with heap := h', toks := tk } := fun h' tk t hk =>
      ⟨.str p.shown, H, I.kept hk, ⟨_, rfl⟩, ans st k (.str _) ho⟩
    cases dp with
    | non =>
      cases ru
      exact PySem.P.repr_of_none (by simpa [PyData.shown] using fin s.heap _ _ fun _ _ e => e)
    | bl b =>
      cases ru
      exact PySem.P.repr_of_bool (by simpa [PyData.shown] using fin s.heap _ _ fun _ _ e => e)
    | int i =>
      obtain ⟨t, rfl⟩ := ru
      have hi : i.natAbs.log2 < 1920 := by
        have := showable_of d _ e1 h2
        simpa [PyData.showable] using this
      exact PySem.P.repr_of_int hi (by simpa [PyData.shown] using fin s.heap _ _ fun _ _ e => e)
    | str x =>
      obtain ⟨t, rfl⟩ := ru
      exact PySem.P.repr_of_str (by simpa [PyData.shown] using fin s.heap _ _ fun _ _ e => e) (by simpa [PyData.shown] using hz)
    | lst hs hd =>
      cases ru
      exact repr_of_reads' rd (showable_of d _ e1 h2) (PyData.noDict_hsm (PyData.hasDict_of_canLay _ c1)) hg (by omega) (fun _ _ e => e) (fun h' t tk hk => fin h' tk t hk) hz
    | tup hs hd =>
      cases ru
      exact repr_of_reads' rd (showable_of d _ e1 h2) (PyData.noDict_hsm (PyData.hasDict_of_canLay _ c1)) hg (by omega) (fun _ _ e => e) (fun h' t tk hk => fin h' tk t hk) hz
  · exact ho.elim
end
end DL

/-! DL3: what the slots hold, and calls of defs where nothing is being written out (no guard). -/
namespace DL
open PySem PySem.Spec PyProof.Rows L2

/-! ### slots -/
/-- what a slot holds: nothing that is told, data, a list of its own, a dict of its own (keys ints and texts, or tuples of them) -/
inductive Sl where
  | no
  | val (d : D)
  | own (xs : List D)
  | lat (a : Addr) (xs : List D)
  | dk (kvs : List (Key × D))
  | dt (kvs : List (List Key × D))
abbrev En := List Sl
def Sl.isOwn : Sl → Bool
  | .own _ | .lat _ _ | .dk _ | .dt _ => true
  | _ => false
abbrev IsKV {κ : Type} (K : PySem.W.Frag) (mg : Str → Option Value) (F : Hp) : List (κ × V) → List (κ × D) → Prop := Paired fun p q => p.1 = q.1 ∧ Is K mg F p.2 q.2
theorem IsKV.mono {κ : Type} {K : PySem.W.Frag} {mg : Str → Option Value} {F F' : Hp} (e : Same F F') {ws : List (κ × V)} {kvs : List (κ × D)} (h : IsKV K mg F ws kvs) : IsKV K mg F' ws kvs :=
  Paired.mapP h fun _ _ ⟨a, b⟩ => ⟨a, b.mono e⟩
structure Mine (J : GJ) (pr F : Hp) (p : Addr) : Prop where
  f : F p = none
  q : pr p = none
  m : ¬ J.mt p
structure IsAt (K : PySem.W.Frag) (mg : Str → Option Value) (F : Hp) (p a : Addr) (vs : List V) (xs : List D) : Prop where
  ia : IsA K mg F vs xs
  eq : p = a
theorem IsAt.mono {K : PySem.W.Frag} {mg : Str → Option Value} {F F' : Hp} {p a : Addr} {vs : List V} {xs : List D} (h : IsAt K mg F p a vs xs) (e : Same F F') : IsAt K mg F' p a vs xs := ⟨h.ia.mono e, h.eq⟩
def SlOk (K : PySem.W.Frag) (mg : Str → Option Value) (J : GJ) (pr F H : Hp) (o : Option V) : Sl → Prop
  | .no => True
  | .val d => ∃ v, o = some v ∧ Is K mg F v d
  | .own xs => ∃ p vs, o = some (.ref p) ∧ H p = some (.lst vs) ∧ IsA K mg F vs xs ∧ Mine J pr F p
  | .lat a xs => ∃ p vs, o = some (.ref p) ∧ H p = some (.lst vs) ∧ IsAt K mg F p a vs xs ∧ Mine J pr F p
  | .dk kvs => ∃ p ws, o = some (.ref p) ∧ H p = some (.dK ws) ∧ IsKV K mg F ws kvs ∧ Mine J pr F p
  | .dt kvs => ∃ p ws, o = some (.ref p) ∧ H p = some (.dT ws) ∧ IsKV K mg F ws kvs ∧ Mine J pr F p
structure Rep (K : PySem.W.Frag) (mg : Str → Option Value) (J : GJ) (pr : Hp) (env : En) (σ : L2.St) (F H : Hp) : Prop where
  st : St8 J pr F H
  len : env.length = σ.length
  sl : ∀ (i : Nat) (s : Sl) (o : Option V), env[i]? = some s → σ[i]? = some o → SlOk K mg J pr F H o s
  dis : ∀ (i j : Nat) (s t : Sl), i ≠ j → env[i]? = some s → env[j]? = some t → s.isOwn = true → t.isOwn = true → σ[i]? ≠ σ[j]?
section
variable {K : PySem.W.Frag} {mg : Str → Option Value} {J : GJ} {pr F H F' H' : Hp} {env : En} {σ : L2.St} {o : Option V} {s : Sl}
theorem SlOk.stp (a : St8 J pr F H) (t : Stp J pr F H F' H') (h : SlOk K mg J pr F H o s) : SlOk K mg J pr F' H' o s := by
  cases s with
  | no => trivial
  | val d =>
    obtain ⟨v, e, i⟩ := h
    exact ⟨v, e, i.mono t.ff⟩
  | own xs =>
    obtain ⟨p, vs, e, h1, i, m⟩ := h
    exact ⟨p, vs, e, t.hh p _ m.m nt_lst h1, i.mono t.ff, t.nf p _ nt_lst h1 m.f, m.q, m.m⟩
  | lat a0 xs =>
    obtain ⟨p, vs, e, h1, i, m⟩ := h
    exact ⟨p, vs, e, t.hh p _ m.m nt_lst h1, i.mono t.ff, t.nf p _ nt_lst h1 m.f, m.q, m.m⟩
  | dk kvs =>
    obtain ⟨p, vs, e, h1, i, m⟩ := h
    exact ⟨p, vs, e, t.hh p _ m.m nt_dK h1, i.mono t.ff, t.nf p _ nt_dK h1 m.f, m.q, m.m⟩
  | dt kvs =>
    obtain ⟨p, vs, e, h1, i, m⟩ := h
    exact ⟨p, vs, e, t.hh p _ m.m nt_dT h1, i.mono t.ff, t.nf p _ nt_dT h1 m.f, m.q, m.m⟩
theorem Rep.stp (R : Rep K mg J pr env σ F H) (t : Stp J pr F H F' H') : Rep K mg J pr env σ F' H' :=
  ⟨t.st, R.len, fun i s o e1 e2 => (R.sl i s o e1 e2).stp R.st t, R.dis⟩
theorem Rep.at (R : Rep K mg J pr env σ F H) {i : Nat} (e : env[i]? = some s) : ∃ o, σ[i]? = some o ∧ SlOk K mg J pr F H o s := by
  have hi : i < σ.length := by
    rw [← R.len]
    exact (List.getElem?_eq_some_iff.mp e).1
  exact ⟨σ[i], List.getElem?_eq_getElem hi, R.sl i s _ e (List.getElem?_eq_getElem hi)⟩
/-- the address of an owned slot is nobody else's -/
theorem Rep.alone (R : Rep K mg J pr env σ F H) {i j : Nat} {t : Sl} {p : Addr} (ne : i ≠ j) (e : env[i]? = some s) (hs : s.isOwn = true) (es : σ[i]? = some (some (.ref p))) (ej : env[j]? = some t) (ht : t.isOwn = true) {q : Addr} (eq : σ[j]? = some (some (.ref q))) : q ≠ p := fun z => by
  subst z
  exact R.dis i j s t ne e ej hs ht (es.trans eq.symm)
/-- a slot's own object changes (σ stays): to another content of the same slot -/
theorem Rep.write (R : Rep K mg J pr env σ F H) {i : Nat} {p : Addr} {u : HO} {s' : Sl} (e : env[i]? = some s) (hs : s.isOwn = true) (es : σ[i]? = some (some (.ref p))) (m : Mine J pr F p)
    (new : SlOk K mg J pr F (upd H p u) (some (.ref p)) s') : Rep K mg J pr (env.set i s') σ F (upd H p u) := by
  have hi : i < env.length := (List.getElem?_eq_some_iff.mp e).1
  have hx : ∀ φ, H p ≠ some (.ext φ) := fun φ z => by
    have h := R.sl i s _ e es
    cases s with
    | no => cases hs
    | val d => cases hs
    | own xs =>
      obtain ⟨q, vs, eo, h1, _⟩ := h
      cases eo
      rw [h1] at z
      cases z
    | lat a0 xs =>
      obtain ⟨q, vs, eo, h1, _⟩ := h
      cases eo
      rw [h1] at z
      cases z
    | dk kvs =>
      obtain ⟨q, vs, eo, h1, _⟩ := h
      cases eo
      rw [h1] at z
      cases z
    | dt kvs =>
      obtain ⟨q, vs, eo, h1, _⟩ := h
      cases eo
      rw [h1] at z
      cases z
  refine ⟨R.st.write m.f m.q m.m hx, by rw [List.length_set]; exact R.len, fun j t o e1 e2 => ?_, fun j k t t' ne e1 e2 ht ht' => ?_⟩
  · by_cases hj : i = j
    · subst hj
      rw [List.getElem?_set_self hi] at e1
      cases e1
      rw [es] at e2
      cases e2
      exact new
    · rw [List.getElem?_set_ne hj] at e1
      have h := R.sl j t o e1 e2
      cases t with
      | no => trivial
      | val d => exact h
      | own xs =>
        obtain ⟨q, vs, eo, h1, a, m'⟩ := h
        exact ⟨q, vs, eo, by rw [upd_ne (R.alone hj e hs es e1 rfl (by rw [e2, eo]))]; exact h1, a, m'⟩
      | lat a0 xs =>
        obtain ⟨q, vs, eo, h1, a, m'⟩ := h
        exact ⟨q, vs, eo, by rw [upd_ne (R.alone hj e hs es e1 rfl (by rw [e2, eo]))]; exact h1, a, m'⟩
      | dk kvs =>
        obtain ⟨q, vs, eo, h1, a, m'⟩ := h
        exact ⟨q, vs, eo, by rw [upd_ne (R.alone hj e hs es e1 rfl (by rw [e2, eo]))]; exact h1, a, m'⟩
      | dt kvs =>
        obtain ⟨q, vs, eo, h1, a, m'⟩ := h
        exact ⟨q, vs, eo, by rw [upd_ne (R.alone hj e hs es e1 rfl (by rw [e2, eo]))]; exact h1, a, m'⟩
  · have own : ∀ {j : Nat} {t : Sl}, (env.set i s')[j]? = some t → t.isOwn = true → ∃ t0, env[j]? = some t0 ∧ t0.isOwn = true := fun {j t} ej ht => by
      by_cases hj : i = j
      · subst hj
        exact ⟨s, e, hs⟩
      · rw [List.getElem?_set_ne hj] at ej
        exact ⟨t, ej, ht⟩
    obtain ⟨t0, f1, f2⟩ := own e1 ht
    obtain ⟨t1, g1, g2⟩ := own e2 ht'
    exact R.dis j k t0 t1 ne f1 g1 f2 g2
/-- a slot's own list is laid down for good -/
theorem Rep.freeze (R : Rep K mg J pr env σ F H) {i : Nat} {xs : List D} (e : env[i]? = some (.own xs)) : ∃ p F', σ[i]? = some (some (.ref p)) ∧ Same F F' ∧ Is K mg F' (.ref p) (.lst xs) ∧ Rep K mg J pr (env.set i (.val (.lst xs))) σ F' H := by
  obtain ⟨o, eo, p, vs, rfl, h1, a, m⟩ := R.at e
  have hi : i < env.length := (List.getElem?_eq_some_iff.mp e).1
  have sm : Same F (upd F p (.lst vs)) := same_upd' m.f
  have new : Is K mg (upd F p (.lst vs)) (.ref p) (.lst xs) := .lst upd_same (a.mono sm)
  refine ⟨p, upd F p (.lst vs), eo, sm, new, R.st.freeze h1 m.f m.q m.m nt_lst, by rw [List.length_set]; exact R.len, fun j t o e1 e2 => ?_, fun j k t t' ne e1 e2 ht ht' => ?_⟩
  · by_cases hj : i = j
    · subst hj
      rw [List.getElem?_set_self hi] at e1
      cases e1
      rw [eo] at e2
      cases e2
      exact ⟨_, rfl, new⟩
    · rw [List.getElem?_set_ne hj] at e1
      have h := R.sl j t o e1 e2
      cases t with
      | no => trivial
      | val d =>
        obtain ⟨v, ev, iv⟩ := h
        exact ⟨v, ev, iv.mono sm⟩
      | own xs =>
        obtain ⟨q, vs, eq, h1, a, m'⟩ := h
        exact ⟨q, vs, eq, h1, a.mono sm, by rw [upd_ne (R.alone hj e rfl eo e1 rfl (by rw [e2, eq]))]; exact m'.f, m'.q, m'.m⟩
      | lat a0 xs =>
        obtain ⟨q, vs, eq, h1, a, m'⟩ := h
        exact ⟨q, vs, eq, h1, a.mono sm, by rw [upd_ne (R.alone hj e rfl eo e1 rfl (by rw [e2, eq]))]; exact m'.f, m'.q, m'.m⟩
      | dk kvs =>
        obtain ⟨q, vs, eq, h1, a, m'⟩ := h
        exact ⟨q, vs, eq, h1, a.mono sm, by rw [upd_ne (R.alone hj e rfl eo e1 rfl (by rw [e2, eq]))]; exact m'.f, m'.q, m'.m⟩
      | dt kvs =>
        obtain ⟨q, vs, eq, h1, a, m'⟩ := h
        exact ⟨q, vs, eq, h1, a.mono sm, by rw [upd_ne (R.alone hj e rfl eo e1 rfl (by rw [e2, eq]))]; exact m'.f, m'.q, m'.m⟩
  · have own : ∀ {j : Nat} {t : Sl}, (env.set i (.val (.lst xs)))[j]? = some t → t.isOwn = true → env[j]? = some t := fun {j t} ej ht => by
      by_cases hj : i = j
      · subst hj
        rw [List.getElem?_set_self hi] at ej
        cases ej
        cases ht
      · rw [List.getElem?_set_ne hj] at ej
        exact ej
    exact R.dis j k t t' ne (own e1 ht) (own e2 ht') ht ht'
/-- a slot is stored -/
theorem Rep.store (R : Rep K mg J pr env σ F H) {i : Nat} {v : V} {d : D} (h : Is K mg F v d) : Rep K mg J pr (env.set i (.val d)) (σ.set i (some v)) F H := by
  refine ⟨R.st, by rw [List.length_set, List.length_set]; exact R.len, fun j t o e1 e2 => ?_, fun j k t t' ne e1 e2 ht ht' => ?_⟩
  · by_cases hj : i = j
    · subst hj
      obtain ⟨hl, e1⟩ := List.getElem?_eq_some_iff.mp e1
      obtain ⟨hl', e2⟩ := List.getElem?_eq_some_iff.mp e2
      simp only [List.getElem_set_self] at e1 e2
      subst e1 e2
      exact ⟨v, rfl, h⟩
    · rw [List.getElem?_set_ne hj] at e1 e2
      exact R.sl j t o e1 e2
  · have own : ∀ {j : Nat} {t : Sl}, (env.set i (.val d))[j]? = some t → t.isOwn = true → i ≠ j ∧ env[j]? = some t := fun {j t} ej ht => by
      by_cases hj : i = j
      · subst hj
        obtain ⟨hl, ej⟩ := List.getElem?_eq_some_iff.mp ej
        simp only [List.getElem_set_self] at ej
        subst ej
        cases ht
      · rw [List.getElem?_set_ne hj] at ej
        exact ⟨hj, ej⟩
    obtain ⟨n1, f1⟩ := own e1 ht
    obtain ⟨n2, f2⟩ := own e2 ht'
    rw [List.getElem?_set_ne n1, List.getElem?_set_ne n2]
    exact R.dis j k t t' ne f1 f2 ht ht'
/-- a slot is given an object just made, its own -/
theorem Rep.storeOwn (R : Rep K mg J pr env σ F H) {i : Nat} {p : Addr} {u : HO} {s' : Sl} (n : H p = none) (hs' : s'.isOwn = true) (new : SlOk K mg J pr F (upd H p u) (some (.ref p)) s') :
    Rep K mg J pr (env.set i s') (σ.set i (some (.ref p))) F (upd H p u) := by
  have t := R.st.made (o := u) n
  have R' := R.stp t
  have apart : ∀ {j : Nat} {t : Sl} {o : Option V}, env[j]? = some t → t.isOwn = true → σ[j]? = some o → o ≠ some (.ref p) := fun {j t o} e1 ht e2 z => by
    subst z
    have h := R.sl j t _ e1 e2
    cases t with
    | no => cases ht
    | val d => cases ht
    | own xs =>
      obtain ⟨q, vs, eq, h1, _⟩ := h
      cases eq
      rw [n] at h1
      cases h1
    | lat a0 xs =>
      obtain ⟨q, vs, eq, h1, _⟩ := h
      cases eq
      rw [n] at h1
      cases h1
    | dk xs =>
      obtain ⟨q, vs, eq, h1, _⟩ := h
      cases eq
      rw [n] at h1
      cases h1
    | dt xs =>
      obtain ⟨q, vs, eq, h1, _⟩ := h
      cases eq
      rw [n] at h1
      cases h1
  refine ⟨t.st, by rw [List.length_set, List.length_set]; exact R.len, fun j t o e1 e2 => ?_, fun j k t t' ne e1 e2 ht ht' => ?_⟩
  · by_cases hj : i = j
    · subst hj
      obtain ⟨hl, e1⟩ := List.getElem?_eq_some_iff.mp e1
      obtain ⟨hl', e2⟩ := List.getElem?_eq_some_iff.mp e2
      simp only [List.getElem_set_self] at e1 e2
      subst e1 e2
      exact new
    · rw [List.getElem?_set_ne hj] at e1 e2
      exact R'.sl j t o e1 e2
  · have here : ∀ {j : Nat} {t : Sl}, (env.set i s')[j]? = some t → i = j → (σ.set i (some (V.ref p)))[j]? = some (some (.ref p)) := fun {j t} ej hj => by
      subst hj
      obtain ⟨hl, _⟩ := List.getElem?_eq_some_iff.mp ej
      rw [List.length_set] at hl
      exact List.getElem?_set_self (by rw [← R.len]; exact hl)
    have there : ∀ {j : Nat} {t : Sl}, (env.set i s')[j]? = some t → t.isOwn = true → i ≠ j → (σ.set i (some (V.ref p)))[j]? = σ[j]? ∧ env[j]? = some t ∧ ∃ o, σ[j]? = some o ∧ o ≠ some (.ref p) := fun {j t} ej ht hj => by
      rw [List.getElem?_set_ne hj] at ej
      obtain ⟨o, eo, _⟩ := R.at ej
      exact ⟨List.getElem?_set_ne hj, ej, o, eo, apart ej ht eo⟩
    by_cases hj : i = j
    · have hk : i ≠ k := fun z => ne (hj.symm.trans z)
      rw [here e1 hj]
      obtain ⟨f1, f2, o, f3, f4⟩ := there e2 ht' hk
      rw [f1, f3]
      exact fun z => f4 (Option.some.inj z).symm
    · obtain ⟨f1, f2, o, f3, f4⟩ := there e1 ht hj
      by_cases hk : i = k
      · rw [here e2 hk, f1, f3]
        exact fun z => f4 (Option.some.inj z)
      · obtain ⟨g1, g2, _⟩ := there e2 ht' hk
        rw [f1, g1]
        exact R.dis j k t t' ne f2 g2 ht ht'
end

/-! ### defs, called where no object is being written out -/
/-- room for k calls deep; g: and no object is being written out -/
structure Rm (g : Bool) (k : Nat) (A : Around) : Prop where
  rm : Room k A
  gd : g = true → A.guards = some []
theorem Rm.mono {g : Bool} {j k : Nat} {A : Around} (r : Rm g k A) (h : j ≤ k) : Rm g j A := ⟨r.rm.mono h, r.gd⟩
theorem Rm.deeper {g : Bool} {k : Nat} {A : Around} (r : Rm g (k + 1) A) (env : Env) : Rm g k (A.deeper env) := ⟨r.rm.deeper env, r.gd⟩
structure FnG (g : Bool) (P : Program) (w : World) (K : PySem.W.Frag) (mg : Str → Option Value) (base : Heap) (CX : CXT) (k : Nat) (f : Addr) (fd : FuncData) (ps : List Str) (sp : Sp) : Prop where
  len : ∀ vs H Q E, sp vs H Q E → vs.length = ps.length
  run : ∀ (A : Around) (outer : List Env) (s : Shared) (H : Hp) (ar : Args) (us : List Value) (vs : List V) (Q : VK) (E : XK), Rm g k A → Env0 P w K mg base A outer s H → BindsTo s fd ar (ps.zip us) → Vals vs us → sp vs H Q E →
    codeAny (model P w) A (.call (.ref f) ar) (CR CX outer P w H s Q E) s
section
variable {g : Bool} {P : Program} {w : World} {K : PySem.W.Frag} {mg : Str → Option Value} {base : Heap} {CX : CXT}
theorem FnG.mono {j k : Nat} {f : Addr} {fd : FuncData} {ps : List Str} {sp : Sp} (F : FnG g P w K mg base CX j f fd ps sp) (h : j ≤ k) : FnG g P w K mg base CX k f fd ps sp :=
  ⟨F.len, fun A o s H ar us vs Q E r => F.run A o s H ar us vs Q E (r.mono h)⟩
theorem fnG_lk {k : Nat} {f : Addr} {x qual : Str} {st : Stmt} {N ps : List Str} {sp : Sp} {oc kV doc pm cd ct : Value} {od an : Option Addr} {osl : Array (Option Value)} (lk : K.lookup f = some ⟨oc, od, .func (PySem.W.fnOf x qual (defArgs st) (defBody st) (defScope st) .none kV doc pm an cd ct), osl⟩) (hcd : PySem.W.codeIn K cd qual = true)
    (S : FnScope N ps (defScope st)) (len : ∀ vs H Q E, sp vs H Q E → vs.length = ps.length)
    (hb : ∀ (A : Around) (outer : List Env) (s : Shared) (H : Hp) (vs : List V) (Q : VK) (E : XK), Rm g k (A.deeper (envOfC qual (defScope st) s.heap.objs.size f cd)) → sp vs H Q E →
      ∃ t, PSs (cxOf CX P w K mg base N qual (defScope st) f cd A outer s H E) (defBody st) t ∧ t { nx := fun _ H' => Q .non H', rt := Q } (start N vs) H) : FnG g P w K mg base CX (k + 1) f (PySem.W.fnOf x qual (defArgs st) (defBody st) (defScope st) .none kV doc pm an cd ct) ps sp := by
  refine ⟨len, fun A outer s H ar us vs Q E hr e0 hbd r hsp => ?_⟩
  have hl := len _ _ _ _ hsp
  have up : ∀ b o, base.get? b = some o → s.heap.get? b = some o := fun b o e => (e0.bs b o e).1
  have KX : K.In s.heap := e0.mod.kin.keeps up
  have kinds : ∀ y ∈ ps.zip us, (defScope st).names.lookup y.1 = some .local ∨ ((defScope st).names.lookup y.1 = some .cell ∧ ((cellsFrom (s.heap.objs.size + 1) (defScope st).names []).lookup y.1).isSome = true) := by
    rintro ⟨n, v⟩ hy
    exact (S.par n (List.of_mem_zip hy).1).elim .inl fun q => .inr ⟨q, PySem.W.cellsFrom_some _ _ _ (.inl q)⟩
  refine codeAny_call_function hr.rm.depth (KX _ _ lk) rfl S.co S.gen rfl (PySem.W.codeRec_of KX hcd) (hbd _ _ _ _ (wpAny_newFunctionEnv_cells S.kind kinds fun env he s1 z => ?_))
  subst he
  refine ⟨(e0.mod.nolimit.keeps up).keeps z.toInCall.keep, codeAny_func ?_⟩
  obtain ⟨t, ht, hq⟩ := hb A outer s H vs Q E (hr.deeper _) hsp
  have I := inv_start (CX := CX) (E := E) (cd := cd) S hr.rm.hd e0 hl r z
  refine wpAny_mono (ht.run [] s1 (start N vs) H _ I hq) (fun fl s' hs => ?_) fun _ _ hs => hs
  cases fl with
  | ret u =>
    obtain ⟨v, _, H', J, rv, q⟩ := hs
    exact ⟨v, H', J.os, J.bare, J.base, J.hok, rv, q⟩
  | next =>
    obtain ⟨_, H', J, q⟩ := hs
    exact ⟨.non, H', J.os, J.bare, J.base, J.hok, rfl, q⟩
  | brk =>
    obtain ⟨_, _, _, q⟩ := hs
    exact q.elim
  | cont =>
    obtain ⟨_, _, _, q⟩ := hs
    exact q.elim
theorem fnG_of {k : Nat} {f : Addr} {x qual : Str} {st : Stmt} {fd : FuncData} {N ps : List Str} {sp : Sp} (Fu : L2.Fun K x qual st f fd) (S : FnScope N ps (defScope st)) (len : ∀ vs H Q E, sp vs H Q E → vs.length = ps.length)
    (hb : ∀ (cd : Value) (A : Around) (outer : List Env) (s : Shared) (H : Hp) (vs : List V) (Q : VK) (E : XK), Rm g k (A.deeper (envOfC qual (defScope st) s.heap.objs.size f cd)) → sp vs H Q E →
      ∃ t, PSs (cxOf CX P w K mg base N qual (defScope st) f cd A outer s H E) (defBody st) t ∧ t { nx := fun _ H' => Q .non H', rt := Q } (start N vs) H) : FnG g P w K mg base CX (k + 1) f fd ps sp := by
  obtain ⟨oc, od, kV, doc, pm, an, cd, ct, osl, rfl, lk, hcd⟩ := Fu.ex
  exact fnG_lk lk hcd S len fun A outer s H vs Q E => hb cd A outer s H vs Q E
end
section
variable {g : Bool} {X : Cx} {CX : CXT} {k : Nat} {f : Addr} {fd : FuncData} {ps : List Str} {sp : Sp} {E : XK} {x : Str} {p pos : Pos} {e : Expr} {es : List Expr} {t : TA}
theorem run_fnG {pins : List (Addr × Obj)} {σ : L2.St} {H : Hp} {s : Shared} {Q : VK} {us : List Value} {vs : List V} (F : FnG g X.prog X.w X.K X.mg X.base CX k f fd ps sp) (hr : Rm g k X.A) (hb : Binds X.K fd ps []) (hx : Passes CX X E)
    (I : L2.Inv X pins σ H s) (r : Vals vs us) (h : sp vs H Q E) : wpAny (model X.prog X.w) X.A (call (.ref f) us) (EP X pins σ Q) X.xe s := by
  have hl : us.length = ps.length := r.length.symm.trans (F.len _ _ _ _ h)
  have hbs := hb s us I.kIn (by rw [List.append_nil]; exact hl)
  rw [List.append_nil] at hbs
  refine wpAny_call (codeAny_mono (F.run X.A X.stack s H ⟨us, []⟩ us vs Q E hr I.env0 hbs r h) fun z s' hq => ?_)
  rcases z with e | fl
  · exact hx pins σ H s e s' I hq
  · cases fl with
    | ret u => exact I.after hq
    | next => exact hq.elim
    | brk => exact hq.elim
    | cont => exact hq.elim
theorem pe_callG (F : FnG g X.prog X.w X.K X.mg X.base CX k f fd ps sp) (hr : Rm g k X.A) (hg : Gl X x) (hm : X.mg x = some (.ref f)) (hk : PySem.W.keepIn X.K (.ref f) = true) (hb : Binds X.K fd ps []) (hx : Passes CX X E) (ha : PA X (e :: es) t)
    (hdb : (x == ("__debug__" : Str)) = false := by decide) (he : starEach (e :: es) X.env = (false, eval e X.env) :: starEach es X.env := by rfl) (hpl : (backTo pos (starEach es X.env)).any (·.1) = false := by rfl) :
    PE X (.Call (.Name x p) (e :: es) [] pos) (fun σ H Q => t σ H fun vs H1 => sp vs H1 Q E) :=
  ⟨fun pins s σ H Q I h => wpAny_Call_Name_kw (ld_glob I hg hm (PySem.W.callWith_K (h₀ := X.base) I.ok.mod.kin hk (thn (ha.run pos pins s σ H _ I h) fun us s1 ⟨vs, H1, I1, r, q⟩ => ⟨I1.kIn, run_fnG F hr hb hx I1 r q⟩) he hpl) hdb)⟩
theorem pe_callG0 (F : FnG g X.prog X.w X.K X.mg X.base CX k f fd ps sp) (hr : Rm g k X.A) (hg : Gl X x) (hm : X.mg x = some (.ref f)) (hk : PySem.W.keepIn X.K (.ref f) = true) (hb : Binds X.K fd ps []) (hx : Passes CX X E)
    (hdb : (x == ("__debug__" : Str)) = false := by decide) : PE X (.Call (.Name x p) [] [] pos) (fun σ H Q => sp [] H Q E) :=
  ⟨fun pins s σ H Q I h => wpAny_Call_Name_kw (ld_glob I hg hm (PySem.W.callWith_K0 I.kIn hk (run_fnG (us := []) F hr hb hx I .nil h)) hdb)⟩
end
end DL

/-! DL4: expressions by data. -/
namespace DL
open PySem PySem.Spec PyProof.Rows L2

/-- an argument: data, or the thing that a slot owns, as it stands -/
inductive Ar where
  | d (d : D)
  | b (i : Nat)
abbrev WE := En → (D → En → Prop) → Prop
abbrev WB := En → (Ar → En → Prop) → Prop
abbrev WA := En → (List Ar → En → Prop) → Prop
abbrev WT := En → (Bool → En → Prop) → Prop
abbrev WO := En → (Option Int → En → Prop) → Prop

@[simp] def res1 (env : En) : Ar → Option D
  | .d d => some d
  | .b i => match env[i]? with
    | some (.val d) => some d
    | some (.own xs) => some (.lst xs)
    | some (.lat _ xs) => some (.lst xs)
    | _ => none
@[simp] def resA (env : En) : List Ar → Option (List D)
  | [] => some []
  | a :: as => match res1 env a, resA env as with
    | some d, some ds => some (d :: ds)
    | _, _ => none
@[simp] def reals : List Ar → Option (List D)
  | [] => some []
  | .d d :: as => (reals as).map (d :: ·)
  | .b _ :: _ => none

section
variable (K : PySem.W.Frag) (mg : Str → Option Value) (J : GJ) (pr : Hp)
def IsR (F : Hp) (σ : L2.St) (v : V) : Ar → Prop
  | .d d => Is K mg F v d
  | .b i => σ[i]? = some (some v)
abbrev IsRA (F : Hp) (σ : L2.St) : List V → List Ar → Prop := Paired (IsR K mg F σ)
def tE (w : WE) : TE := fun σ H Q => ∃ (env : En) (F : Hp) (q : D → En → Prop), Rep K mg J pr env σ F H ∧ w env q ∧
  ∀ d env' v F' H', Rep K mg J pr env' σ F' H' → Same F F' → Is K mg F' v d → q d env' → Q v H'
def tBo (w : WB) : TE := fun σ H Q => ∃ (env : En) (F : Hp) (q : Ar → En → Prop), Rep K mg J pr env σ F H ∧ w env q ∧
  ∀ a env' v F' H', Rep K mg J pr env' σ F' H' → Same F F' → IsR K mg F' σ v a → q a env' → Q v H'
def tAr (w : WA) : TA := fun σ H Q => ∃ (env : En) (F : Hp) (q : List Ar → En → Prop), Rep K mg J pr env σ F H ∧ w env q ∧
  ∀ as env' vs F' H', Rep K mg J pr env' σ F' H' → Same F F' → IsRA K mg F' σ vs as → q as env' → Q vs H'
def tTs (w : WT) : TT := fun σ H Q => ∃ (env : En) (F : Hp) (q : Bool → En → Prop), Rep K mg J pr env σ F H ∧ w env q ∧
  ∀ b env' F' H', Rep K mg J pr env' σ F' H' → Same F F' → q b env' → Q b H'
def tOp' (w : WO) : TO := fun σ H Q => ∃ (env : En) (F : Hp) (q : Option Int → En → Prop), Rep K mg J pr env σ F H ∧ w env q ∧
  ∀ o env' F' H', Rep K mg J pr env' σ F' H' → Same F F' → q o env' → Q o H'
end
structure DE (X : Cx) (J : GJ) (e : Expr) (w : WE) : Prop where
  run : ∀ pr, PE X e (tE X.K X.mg J pr w)
structure DB (X : Cx) (J : GJ) (e : Expr) (w : WB) : Prop where
  run : ∀ pr, PE X e (tBo X.K X.mg J pr w)
structure DA (X : Cx) (J : GJ) (es : List Expr) (w : WA) : Prop where
  run : ∀ pr, PA X es (tAr X.K X.mg J pr w)
structure DT (X : Cx) (J : GJ) (e : Expr) (w : WT) : Prop where
  run : ∀ pr, PT X e (tTs X.K X.mg J pr w)
structure DW (X : Cx) (J : GJ) (e : Expr) (w : WT) : Prop where
  run : ∀ pr, PW X e (tTs X.K X.mg J pr w)
structure DO (X : Cx) (J : GJ) (e : Option Expr) (w : WO) : Prop where
  run : ∀ pr, PO X e (tOp' X.K X.mg J pr w)

section
variable {X : Cx}
theorem PE.imp {e : Expr} {t t' : TE} (h : PE X e t) (i : ∀ σ H Q, t' σ H Q → t σ H Q) : PE X e t' := ⟨fun pins s σ H Q I q => h.run pins s σ H Q I (i _ _ _ q)⟩
theorem PT.imp {e : Expr} {t t' : TT} (h : PT X e t) (i : ∀ σ H Q, t' σ H Q → t σ H Q) : PT X e t' := ⟨fun pins s σ H Q I q => h.run pins s σ H Q I (i _ _ _ q)⟩
theorem PW.imp {e : Expr} {t t' : TT} (h : PW X e t) (i : ∀ σ H Q, t' σ H Q → t σ H Q) : PW X e t' := ⟨fun wh pins s σ H Q I q => h.run wh pins s σ H Q I (i _ _ _ q)⟩
theorem PA.imp {es : List Expr} {t t' : TA} (h : PA X es t) (i : ∀ σ H Q, t' σ H Q → t σ H Q) : PA X es t' := ⟨fun p pins s σ H Q I q => h.run p pins s σ H Q I (i _ _ _ q)⟩
theorem PO.imp {e : Option Expr} {t t' : TO} (h : PO X e t) (i : ∀ σ H Q, t' σ H Q → t σ H Q) : PO X e t' := ⟨fun pins s σ H Q I q => h.run pins s σ H Q I (i _ _ _ q)⟩
end

section
variable {K : PySem.W.Frag} {mg : Str → Option Value} {J : GJ} {pr F F' H : Hp} {σ : L2.St} {env : En} {v : V} {vs : List V}
theorem IsR.mono (s : Same F F') {a : Ar} (h : IsR K mg F σ v a) : IsR K mg F' σ v a := by
  cases a with
  | d d => exact Is.mono s h
  | b i => exact h
theorem IsRA.mono (s : Same F F') {as : List Ar} (h : IsRA K mg F σ vs as) : IsRA K mg F' σ vs as := Paired.mapP h fun _ _ q => q.mono s
theorem IsR.res (R : Rep K mg J pr env σ F H) {a : Ar} {d : D} (h : IsR K mg F σ v a) (e : res1 env a = some d) : IsB K mg F H v d := by
  cases a with
  | d x =>
    cases e
    exact .inl h
  | b i =>
    simp only [res1] at e
    split at e
    · rename_i x hx
      cases e
      obtain ⟨o, eo, z, rfl, hz⟩ := R.at hx
      have q := eo.symm.trans (show σ[i]? = some (some v) from h)
      cases q
      exact .inl hz
    · rename_i xs hx
      cases e
      obtain ⟨o, eo, p, vs, rfl, h1, h2, _⟩ := R.at hx
      have q := eo.symm.trans (show σ[i]? = some (some v) from h)
      cases q
      exact .inr ⟨p, vs, xs, rfl, rfl, h1, h2⟩
    · rename_i a0 xs hx
      cases e
      obtain ⟨o, eo, p, vs, rfl, h1, h2, _⟩ := R.at hx
      have q := eo.symm.trans (show σ[i]? = some (some v) from h)
      cases q
      exact .inr ⟨p, vs, xs, rfl, rfl, h1, h2.ia⟩
    · cases e
theorem IsRA.res (R : Rep K mg J pr env σ F H) : ∀ {vs : List V} {as : List Ar} {ds : List D}, IsRA K mg F σ vs as → resA env as = some ds → IsBA K mg F H vs ds
  | _, _, _, .nil, e => by
    cases e
    exact .nil
  | _, _, _, .cons h t, e => by
    unfold resA at e
    split at e
    · rename_i d ds e1 e2
      cases e
      exact .cons (h.res R e1) (IsRA.res R t e2)
    · cases e
theorem IsRA.real : ∀ {vs : List V} {as : List Ar} {ds : List D}, IsRA K mg F σ vs as → reals as = some ds → IsA K mg F vs ds
  | _, _, _, .nil, e => by
    cases e
    exact .nil
  | _, .d x :: _, _, .cons h t, e => by
    simp only [reals, Option.map_eq_some_iff] at e
    obtain ⟨ds, e1, rfl⟩ := e
    exact .cons h (IsRA.real t e1)
  | _, .b i :: _, _, .cons h t, e => by cases e
/-- an operation of the data, at what is known -/
theorem rP_of (R : Rep K mg J pr env σ F H) {O : Prim} {as : List Ar} {ds : List D} {q : D → En → Prop} {Q : VK} (ia : IsRA K mg F σ vs as) (e : resA env as = some ds) (ho : O ds fun d => q d env)
    (k : ∀ d env' z F' H', Rep K mg J pr env' σ F' H' → Same F F' → Is K mg F' z d → q d env' → Q z H') : rP K mg J O vs H Q :=
  ⟨pr, F, ds, fun d => q d env, R.st, ia.res R e, ho, fun d z F' H' t i hq => k d env z F' H' (R.stp t) t.ff i hq⟩
end

/-! ### names, constants -/
@[simp] def wVar (i : Nat) : WE := fun env q => match env[i]? with
  | some (.val d) => q d env
  | some (.own xs) => q (.lst xs) (env.set i (.val (.lst xs)))
  | _ => False
@[simp] def wB (i : Nat) : WB := fun env q => (match env[i]? with
  | some (.val _) | some (.own _) | some (.lat _ _) | some (.dk _) | some (.dt _) => True
  | _ => False) ∧ q (.b i) env
@[simp] def wOf (w : WE) : WB := fun env q => w env fun d e => q (.d d) e
@[simp] def wC (d : D) : WE := fun env q => q d env
section
variable {X : Cx} {J : GJ} {x : Str} {pos : Pos}
theorem de_var (i : Nat) (h : PE X (.Name x pos) (tVar i)) : DE X J (.Name x pos) (wVar i) := by
  refine ⟨fun pr => PE.imp h fun σ H Q ⟨env, F, q, R, hw, k⟩ => ?_⟩
  unfold wVar at hw
  split at hw
  · rename_i d hd
    obtain ⟨o, eo, v, rfl, hv⟩ := R.at hd
    exact ⟨v, eo, k d env v F H R (Same.refl _) hv hw⟩
  · rename_i xs hd
    obtain ⟨p, F', eo, sm, hp, R'⟩ := R.freeze hd
    exact ⟨_, eo, k _ _ _ F' H R' sm hp hw⟩
  · exact hw.elim
theorem db_var (i : Nat) (h : PE X (.Name x pos) (tVar i)) : DB X J (.Name x pos) (wB i) := by
  refine ⟨fun pr => PE.imp h fun σ H Q ⟨env, F, q, R, hw, k⟩ => ?_⟩
  have fin : ∀ v : V, σ[i]? = some (some v) → ∃ v, σ[i]? = some (some v) ∧ Q v H := fun v e => ⟨v, e, k (.b i) env v F H R (Same.refl _) e hw.2⟩
  have h1 := hw.1
  split at h1
  · rename_i d hd
    obtain ⟨o, eo, v, rfl, hv⟩ := R.at hd
    exact fin v eo
  · rename_i d hd
    obtain ⟨o, eo, p, vs, rfl, hv⟩ := R.at hd
    exact fin _ eo
  · rename_i d hd
    obtain ⟨o, eo, p, vs, rfl, hv⟩ := R.at hd
    exact fin _ eo
  · rename_i d hd
    obtain ⟨o, eo, p, vs, rfl, hv⟩ := R.at hd
    exact fin _ eo
  · rename_i d hd
    obtain ⟨o, eo, p, vs, rfl, hv⟩ := R.at hd
    exact fin _ eo
  · exact h1.elim
theorem db_of {e : Expr} {w : WE} (h : DE X J e w) : DB X J e (wOf w) :=
  ⟨fun pr => PE.imp (h.run pr) fun σ H Q ⟨env, F, q, R, hw, k⟩ => ⟨env, F, _, R, hw, fun d env' v F' H' R' s i hq => k (.d d) env' v F' H' R' s i hq⟩⟩
theorem de_c {e : Expr} {v : V} {d : D} (h : PE X e (tC v)) (i : ∀ F, Is X.K X.mg F v d) : DE X J e (wC d) :=
  ⟨fun pr => PE.imp h fun σ H Q ⟨env, F, q, R, hw, k⟩ => k d env v F H R (Same.refl _) (i F) hw⟩
theorem de_int {i j} : DE X J (.Constant (.int i) j pos) (wC (.int i)) := de_c pe_int fun _ => .int _
theorem de_bl {i j} : DE X J (.Constant (.bool i) j pos) (wC (.bl i)) := de_c pe_bl fun _ => .bl _
theorem de_non {j} : DE X J (.Constant .none j pos) (wC .non) := de_c pe_non fun _ => .non
theorem de_str {i j} : DE X J (.Constant (.str i) j pos) (wC (.str i)) := de_c pe_str fun _ => .str _
/-- a module's constant -/
theorem de_gi {i : Int} (hg : Gl X x) (hm : ∃ t, X.mg x = some (.int i t)) (hd : (x == ("__debug__" : Str)) = false := by decide) : DE X J (.Name x pos) (wC (.int i)) :=
  let ⟨t, h⟩ := hm
  de_c (pe_glob (v := .int i) hg h ⟨t, rfl⟩ hd) fun _ => .int _
/-- a built-in class as a value -/
theorem de_ty {T : String} (hg : Gl X x) (hm : X.mg x = none) (hv : bootBuiltins x = some (.type T)) (hn : x ≠ "__name__" := by decide) (hd : (x == ("__debug__" : Str)) = false := by decide) : DE X J (.Name x pos) (wC (.ty T)) :=
  de_c (pe_bltn (v := .ty T) hg hm hv rfl hn hd) fun _ => .ty _
/-- an own class as a value -/
theorem de_cls {C : Addr} (hg : Gl X x) (hm : X.mg x = some (.ref C)) (hd : (x == ("__debug__" : Str)) = false := by decide) : DE X J (.Name x pos) (wC (.cls x)) :=
  de_c (pe_glob (v := .ref C) hg hm rfl hd) fun _ => .cls hm
end

/-! ### operations -/
@[simp] def wFin (O : Prim) (as : List Ar) (env : En) (q : D → En → Prop) : Prop := ∃ ds, resA env as = some ds ∧ O ds fun d => q d env
@[simp] def w2 (O : Prim) (wa wb : WB) : WE := fun env q => wa env fun x e1 => wb e1 fun y e2 => wFin O [x, y] e2 q
@[simp] def w1 (O : Prim) (wa : WB) : WE := fun env q => wa env fun x e1 => wFin O [x] e1 q
@[simp] def wPr (O : Prim) (wa : WA) : WE := fun env q => wa env fun as e1 => wFin O as e1 q
@[simp] def wNil : WA := fun env q => q [] env
@[simp] def wCons (w : WB) (wr : WA) : WA := fun env q => w env fun a e1 => wr e1 fun as e2 => q (a :: as) e2
section
variable {X : Cx} {J : GJ} {a b e : Expr} {es : List Expr} {wa wb : WB} {w : WA} {O : Prim} {pos : Pos}
theorem two_of {pr : Hp} {σ : L2.St} {H : Hp} {Q : VK} (h : tE X.K X.mg J pr (w2 O wa wb) σ H Q) : tBo X.K X.mg J pr wa σ H fun x H1 => tBo X.K X.mg J pr wb σ H1 fun y H2 => rP X.K X.mg J O [x, y] H2 Q := by
  obtain ⟨env, F, q, R, hw, k⟩ := h
  refine ⟨env, F, _, R, hw, fun x e1 v F1 H1 R1 s1 i1 h1 => ⟨e1, F1, _, R1, h1, fun y e2 u F2 H2 R2 s2 i2 ⟨ds, h2, h3⟩ => ?_⟩⟩
  exact rP_of R2 (.cons (i1.mono s2) (.cons i2 .nil)) h2 h3 fun d env' z F' H' R' s' i' hq => k d env' z F' H' R' ((s1.trans s2).trans s') i' hq
theorem one_of {pr : Hp} {σ : L2.St} {H : Hp} {Q : VK} (h : tE X.K X.mg J pr (w1 O wa) σ H Q) : tBo X.K X.mg J pr wa σ H fun x H1 => rP X.K X.mg J O [x] H1 Q := by
  obtain ⟨env, F, q, R, hw, k⟩ := h
  refine ⟨env, F, _, R, hw, fun x e1 v F1 H1 R1 s1 i1 ⟨ds, h2, h3⟩ => ?_⟩
  exact rP_of R1 (.cons i1 .nil) h2 h3 fun d env' z F' H' R' s' i' hq => k d env' z F' H' R' (s1.trans s') i' hq
theorem args_of {pr : Hp} {σ : L2.St} {H : Hp} {Q : VK} (h : tE X.K X.mg J pr (wPr O w) σ H Q) : tAr X.K X.mg J pr w σ H fun xs H1 => rP X.K X.mg J O xs H1 Q := by
  obtain ⟨env, F, q, R, hw, k⟩ := h
  refine ⟨env, F, _, R, hw, fun as e1 vs F1 H1 R1 s1 i1 ⟨ds, h2, h3⟩ => ?_⟩
  exact rP_of R1 i1 h2 h3 fun d env' z F' H' R' s' i' hq => k d env' z F' H' R' (s1.trans s') i' hq
theorem de_op {op : Operator} (ho : OpD X J (binaryOp op) O) (ha : DB X J a wa) (hb : DB X J b wb) : DE X J (.BinOp a op b pos) (w2 O wa wb) :=
  ⟨fun pr => PE.imp (pe_op ho (ha.run pr) (hb.run pr)) fun _ _ _ h => two_of h⟩
theorem de_un {op : UnaryOp} (ho : UnD X J (unaryOp op) O) (ha : DB X J a wa) : DE X J (.UnaryOp op a pos) (w1 O wa) :=
  ⟨fun pr => PE.imp (pe_un ho (ha.run pr)) fun _ _ _ h => one_of h⟩
theorem de_cmp {op : CmpOp} (ho : OpD X J (compareOp op) O) (ha : DB X J a wa) (hb : DB X J b wb) (hm : behindInMarks op b = false) : DE X J (.Compare a [op] [b] pos) (w2 O wa wb) :=
  ⟨fun pr => PE.imp (pe_cmpR ho (ha.run pr) (hb.run pr) hm) fun _ _ _ h => two_of h⟩
theorem de_ix (ho : IxD X J O) (ha : DB X J a wa) (hb : DB X J b wb) (hs : PlainIx b) : DE X J (.Subscript a b pos) (w2 O wa wb) :=
  ⟨fun pr => PE.imp (pe_ix ho (ha.run pr) (hb.run pr) hs) fun _ _ _ h => two_of h⟩
theorem da_nil : DA X J [] wNil := ⟨fun pr => PA.imp pa_nil fun σ H Q ⟨env, F, q, R, hw, k⟩ => k [] env [] F H R (Same.refl _) .nil hw⟩
theorem da_cons (ha : DB X J e wa) (hr : DA X J es w) (hs : starEach (e :: es) X.env = (false, eval e X.env) :: starEach es X.env := by rfl) : DA X J (e :: es) (wCons wa w) :=
  ⟨fun pr => PA.imp (pa_cons (ha.run pr) (hr.run pr) hs) fun σ H Q ⟨env, F, q, R, hw, k⟩ => ⟨env, F, _, R, hw, fun x e1 v F1 H1 R1 s1 i1 h1 => ⟨e1, F1, _, R1, h1, fun as e2 vs F2 H2 R2 s2 i2 h2 => k _ e2 _ F2 H2 R2 (s1.trans s2) (.cons (i1.mono s2) i2) h2⟩⟩⟩
theorem de_callB {x : Str} {id : String} {p : Pos} (hc : CallD X J (.builtin id) O) (hg : Gl X x) (hm : X.mg x = none) (hv : bootBuiltins x = some (.builtin id)) (ha : DA X J (e :: es) w) (hn : x ≠ "__name__" := by decide) (hdb : (x == ("__debug__" : Str)) = false := by decide)
    (he : starEach (e :: es) X.env = (false, eval e X.env) :: starEach es X.env := by rfl) (hpl : (backTo pos (starEach es X.env)).any (·.1) = false := by rfl) : DE X J (.Call (.Name x p) (e :: es) [] pos) (wPr O w) :=
  ⟨fun pr => PE.imp (pe_callB hc hg hm hv (ha.run pr) hn hdb he hpl) fun _ _ _ h => args_of h⟩
theorem de_callTy {x : Str} {T : String} {p : Pos} (hc : CallD X J (.type T) O) (hg : Gl X x) (hm : X.mg x = none) (hv : bootBuiltins x = some (.type T)) (ha : DA X J (e :: es) w) (hn : x ≠ "__name__" := by decide) (hdb : (x == ("__debug__" : Str)) = false := by decide)
    (he : starEach (e :: es) X.env = (false, eval e X.env) :: starEach es X.env := by rfl) (hpl : (backTo pos (starEach es X.env)).any (·.1) = false := by rfl) : DE X J (.Call (.Name x p) (e :: es) [] pos) (wPr O w) :=
  ⟨fun pr => PE.imp (pe_callTy hc hg hm hv (ha.run pr) hn hdb he hpl) fun _ _ _ h => args_of h⟩
end

/-! ### displays, slices, fields -/
@[simp] def wTup (w : WA) : WE := fun env q => w env fun as e1 => ∃ ds, reals as = some ds ∧ ds.length ≤ 1000 ∧ q (.tup ds) e1
@[simp] def wLst (w : WA) : WE := fun env q => w env fun as e1 => ∃ ds, reals as = some ds ∧ ds.length ≤ 1000 ∧ q (.lst ds) e1
@[simp] def wONone : WO := fun env q => q none env
@[simp] def wOSome (w : WE) : WO := fun env q => w env fun d e1 => ∃ i, d = .int i ∧ q (some i) e1
@[simp] def wSl (O : PrimS) (w : WB) (wl wh : WO) : WE := fun env q => w env fun a e1 => wl e1 fun lo e2 => wh e2 fun hi e3 => ∃ d, res1 e3 a = some d ∧ O d lo hi fun d' => q d' e3
@[simp] def wFld (c f : Str) (w : WE) : WE := fun env q => w env fun d e1 => ∃ fs v, d = .ins c fs ∧ fs.lookup f = some v ∧ q v e1
section
variable {X : Cx} {J : GJ} {e : Expr} {es : List Expr} {w : WA} {we : WE} {wb : WB} {wl wh : WO} {pos p2 : Pos}
theorem Rep.laid {K : PySem.W.Frag} {mg : Str → Option Value} {pr F H : Hp} {env : En} {σ : L2.St} (R : Rep K mg J pr env σ F H) {p : Addr} {o : HO} (n : H p = none) (ho : NT o := by first | exact nt_lst | exact nt_tup) : Rep K mg J pr env σ (upd F p o) (upd H p o) ∧ Same F (upd F p o) :=
  ⟨R.stp (R.st.laid n ho), same_upd' (R.st.sub.free n)⟩
theorem de_tup {k} (h : DA X J es w) : DE X J (.Tuple es k pos) (wTup w) := by
  refine ⟨fun pr => PE.imp (pe_tup (h.run pr)) fun σ H Q ⟨env, F, q, R, hw, k⟩ => ⟨env, F, _, R, hw, fun as e1 vs F1 H1 R1 s1 i1 ⟨ds, h1, hl, hq⟩ => ?_⟩⟩
  have ia := i1.real h1
  refine ⟨by rw [ia.length, sizeLine_eq]; omega, fun p n => ?_⟩
  obtain ⟨R2, s2⟩ := R1.laid (o := .tup vs) n
  exact k _ e1 _ _ _ R2 (s1.trans s2) (.tup (SqT.of upd_same) (ia.mono s2)) hq
theorem de_lst (h : DA X J es w) : DE X J (.List es pos) (wLst w) := by
  refine ⟨fun pr => PE.imp (pe_lst (h.run pr)) fun σ H Q ⟨env, F, q, R, hw, k⟩ => ⟨env, F, _, R, hw, fun as e1 vs F1 H1 R1 s1 i1 ⟨ds, h1, hl, hq⟩ => ?_⟩⟩
  have ia := i1.real h1
  refine ⟨by rw [ia.length, sizeLine_eq]; omega, fun p n => ?_⟩
  obtain ⟨R2, s2⟩ := R1.laid (o := .lst vs) n
  exact k _ e1 _ _ _ R2 (s1.trans s2) (.lst upd_same (ia.mono s2)) hq
theorem do_none : DO X J none wONone := ⟨fun pr => PO.imp po_none fun σ H Q ⟨env, F, q, R, hw, k⟩ => k none env F H R (Same.refl _) hw⟩
theorem do_some (h : DE X J e we) : DO X J (some e) (wOSome we) := by
  refine ⟨fun pr => PO.imp (po_some (h.run pr)) fun σ H Q ⟨env, F, q, R, hw, k⟩ => ⟨env, F, _, R, hw, fun d e1 v F1 H1 R1 s1 i1 ⟨i, ei, hq⟩ => ?_⟩⟩
  subst ei
  exact ⟨i, i1.int_inv, k _ e1 F1 H1 R1 s1 hq⟩
theorem de_sl {lo hi : Option Expr} {O : PrimS} (hr : SlD X J O) (he : DB X J e wb) (hl : DO X J lo wl) (hh : DO X J hi wh) : DE X J (.Subscript e (.Slice lo hi none p2) pos) (wSl O wb wl wh) := by
  refine ⟨fun pr => PE.imp (pe_slice hr (he.run pr) (hl.run pr) (hh.run pr)) fun σ H Q ⟨env, F, q, R, hw, k⟩ => ?_⟩
  refine ⟨env, F, _, R, hw, fun a e1 v F1 H1 R1 s1 i1 h1 => ⟨e1, F1, _, R1, h1, fun l e2 F2 H2 R2 s2 h2 => ⟨e2, F2, _, R2, h2, fun u e3 F3 H3 R3 s3 ⟨d, h3, ho⟩ => ?_⟩⟩⟩
  exact ⟨pr, F3, d, _, R3.st, ((i1.mono s2).mono s3).res R3 h3, ho, fun d' z F' H' t i hq => k d' e3 z F' H' (R3.stp t) (((s1.trans s2).trans s3).trans t.ff) i hq⟩
theorem de_fld {c f : Str} (hc : ∀ C, X.mg c = some (.ref C) → Cls X.K C ∧ NoAttr X.K C f) (h : DE X J e we) (hb : attributeBase e f X.env (eval e X.env) = eval e X.env) : DE X J (.Attribute e f pos) (wFld c f we) := by
  refine ⟨fun pr => PE.imp (pe_fld (h.run pr) hb) fun σ H Q ⟨env, F, q, R, hw, k⟩ => ⟨env, F, _, R, hw, fun d e1 v F1 H1 R1 s1 i1 ⟨fs, d', hd, hl, hq⟩ => ?_⟩⟩
  subst hd
  obtain ⟨a, C, dx, gs, rfl, hm, h1, h2⟩ := i1.ins_inv
  obtain ⟨c1, c2⟩ := hc C hm
  obtain ⟨z, hz, iz⟩ := h2.lookup hl
  exact ⟨a, C, dx, gs, z, rfl, R1.st.sub _ _ h1, c1, c2, hz, k _ e1 z F1 H1 R1 s1 iz hq⟩
end

/-! ### tests, and, or, not -/
@[simp] def wTB (w : WE) : WT := fun env q => w env fun d e1 => ∃ b, d = .bl b ∧ q b e1
@[simp] def wTNot (w : WT) : WT := fun env q => w env fun b e1 => q (!b) e1
@[simp] def wTAnd (w u : WT) : WT := fun env q => w env fun b e1 => if b = true then u e1 q else q false e1
@[simp] def wTOr (w u : WT) : WT := fun env q => w env fun b e1 => if b = true then q true e1 else u e1 q
@[simp] def wIf (t : WT) (wa wb : WE) : WE := fun env q => t env fun b e1 => if b = true then wa e1 q else wb e1 q
@[simp] def wAnd (wa wb : WE) : WE := fun env q => wa env fun d e1 => ∃ b, d = .bl b ∧ if b = true then wb e1 q else q (.bl false) e1
@[simp] def wOr (wa wb : WE) : WE := fun env q => wa env fun d e1 => ∃ b, d = .bl b ∧ if b = true then q (.bl true) e1 else wb e1 q
@[simp] def wNot (wa : WE) : WE := fun env q => wa env fun d e1 => ∃ b, d = .bl b ∧ q (.bl (!b)) e1
@[simp] def wChain (O O' : Prim) (wa wb wc : WB) : WE := fun env q => wa env fun x e1 => wb e1 fun y e2 => ∃ ds, resA e2 [x, y] = some ds ∧ O ds fun d => ∃ k, d = .bl k ∧
  if k = true then wc e2 fun z e3 => wFin O' [y, z] e3 q else q (.bl false) e2
section
variable {X : Cx} {J : GJ} {a b c e : Expr} {es : List Expr} {wa wb wc : WB} {we wf : WE} {wt wu : WT} {O O' : Prim} {pos : Pos}
theorem dt_val (h : DE X J e we) (he : ∀ whole, isTrue e X.env whole = (do let v ← whole; standAt e.pos; holding [v] (truthy v)) := by intro _; rfl) : DT X J e (wTB we) := by
  refine ⟨fun pr => PT.imp (pt_val (h.run pr) he) fun σ H Q ⟨env, F, q, R, hw, k⟩ => ⟨env, F, _, R, hw, fun d e1 v F1 H1 R1 s1 i1 ⟨b, hd, hq⟩ => ?_⟩⟩
  subst hd
  exact ⟨b, i1.bl_inv, k b e1 F1 H1 R1 s1 hq⟩
theorem dt_cmp {op : CmpOp} (ho : OpD X J (compareOp op) O) (ha : DB X J a wa) (hb : DB X J b wb) (hm : behindInMarks op b = false) : DT X J (.Compare a [op] [b] pos) (wTB (w2 O wa wb)) := by
  refine ⟨fun pr => PT.imp (pt_cmpR ho (ha.run pr) (hb.run pr) hm) fun σ H Q ⟨env, F, q, R, hw, k⟩ => ?_⟩
  show tOp _ _ _ σ H _
  refine two_of ⟨env, F, _, R, hw, fun d e1 v F1 H1 R1 s1 i1 ⟨b, hd, hq⟩ => ?_⟩
  subst hd
  exact ⟨b, i1.bl_inv, k b e1 F1 H1 R1 s1 hq⟩
theorem dt_not (h : DT X J a wt) : DT X J (.UnaryOp .Not a pos) (wTNot wt) :=
  ⟨fun pr => PT.imp (pt_not (h.run pr)) fun σ H Q ⟨env, F, q, R, hw, k⟩ => ⟨env, F, _, R, hw, fun b e1 F1 H1 R1 s1 hq => k _ e1 F1 H1 R1 s1 hq⟩⟩
theorem dw_and1 (h : DT X J a wt) : DW X J (.BoolOp .And [a] pos) wt := ⟨fun pr => pw_and1 (h.run pr)⟩
theorem dw_or1 (h : DT X J a wt) : DW X J (.BoolOp .Or [a] pos) wt := ⟨fun pr => pw_or1 (h.run pr)⟩
theorem dw_and (h : DT X J a wt) (h' : DW X J (.BoolOp .And (b :: es) pos) wu) : DW X J (.BoolOp .And (a :: b :: es) pos) (wTAnd wt wu) := by
  refine ⟨fun pr => PW.imp (pw_and (h.run pr) (h'.run pr)) fun σ H Q ⟨env, F, q, R, hw, k⟩ => ⟨env, F, _, R, hw, fun b e1 F1 H1 R1 s1 hq => ?_⟩⟩
  cases b with
  | true => exact ⟨e1, F1, q, R1, hq, fun b' e2 F2 H2 R2 s2 hq' => k b' e2 F2 H2 R2 (s1.trans s2) hq'⟩
  | false => exact k false e1 F1 H1 R1 s1 hq
theorem dw_or (h : DT X J a wt) (h' : DW X J (.BoolOp .Or (b :: es) pos) wu) : DW X J (.BoolOp .Or (a :: b :: es) pos) (wTOr wt wu) := by
  refine ⟨fun pr => PW.imp (pw_or (h.run pr) (h'.run pr)) fun σ H Q ⟨env, F, q, R, hw, k⟩ => ⟨env, F, _, R, hw, fun b e1 F1 H1 R1 s1 hq => ?_⟩⟩
  cases b with
  | true => exact k true e1 F1 H1 R1 s1 hq
  | false => exact ⟨e1, F1, q, R1, hq, fun b' e2 F2 H2 R2 s2 hq' => k b' e2 F2 H2 R2 (s1.trans s2) hq'⟩
theorem dt_of (h : DW X J e wt) : DT X J e wt := ⟨fun pr => (h.run pr).pt⟩
theorem de_if (hc : DT X J c wt) (ha : DE X J a we) (hb : DE X J b wf) : DE X J (.IfExp c a b pos) (wIf wt we wf) := by
  refine ⟨fun pr => PE.imp (pe_ifExp (hc.run pr) (ha.run pr) (hb.run pr)) fun σ H Q ⟨env, F, q, R, hw, k⟩ => ⟨env, F, _, R, hw, fun b e1 F1 H1 R1 s1 hq => ?_⟩⟩
  cases b with
  | true => exact ⟨e1, F1, q, R1, hq, fun d e2 v F2 H2 R2 s2 i hq' => k d e2 v F2 H2 R2 (s1.trans s2) i hq'⟩
  | false => exact ⟨e1, F1, q, R1, hq, fun d e2 v F2 H2 R2 s2 i hq' => k d e2 v F2 H2 R2 (s1.trans s2) i hq'⟩
theorem de_one {op} (h : DE X J a we) : DE X J (.BoolOp op [a] pos) we := ⟨fun pr => pe_one (h.run pr)⟩
theorem de_and (ha : DE X J a we) (hb : DE X J (.BoolOp .And (b :: es) pos) wf) : DE X J (.BoolOp .And (a :: b :: es) pos) (wAnd we wf) := by
  refine ⟨fun pr => PE.imp (pe_and (ha.run pr) (hb.run pr)) fun σ H Q ⟨env, F, q, R, hw, k⟩ => ⟨env, F, _, R, hw, fun d e1 v F1 H1 R1 s1 i1 ⟨b, hd, hq⟩ => ?_⟩⟩
  subst hd
  refine ⟨b, i1.bl_inv, ?_⟩
  cases b with
  | true => exact ⟨e1, F1, q, R1, hq, fun d e2 v F2 H2 R2 s2 i hq' => k d e2 v F2 H2 R2 (s1.trans s2) i hq'⟩
  | false => exact k _ e1 _ F1 H1 R1 s1 (.bl _) hq
theorem de_or (ha : DE X J a we) (hb : DE X J (.BoolOp .Or (b :: es) pos) wf) : DE X J (.BoolOp .Or (a :: b :: es) pos) (wOr we wf) := by
  refine ⟨fun pr => PE.imp (pe_or (ha.run pr) (hb.run pr)) fun σ H Q ⟨env, F, q, R, hw, k⟩ => ⟨env, F, _, R, hw, fun d e1 v F1 H1 R1 s1 i1 ⟨b, hd, hq⟩ => ?_⟩⟩
  subst hd
  refine ⟨b, i1.bl_inv, ?_⟩
  cases b with
  | true => exact k _ e1 _ F1 H1 R1 s1 (.bl _) hq
  | false => exact ⟨e1, F1, q, R1, hq, fun d e2 v F2 H2 R2 s2 i hq' => k d e2 v F2 H2 R2 (s1.trans s2) i hq'⟩
theorem de_not (ha : DE X J a we) : DE X J (.UnaryOp .Not a pos) (wNot we) := by
  refine ⟨fun pr => PE.imp (pe_not (ha.run pr)) fun σ H Q ⟨env, F, q, R, hw, k⟩ => ⟨env, F, _, R, hw, fun d e1 v F1 H1 R1 s1 i1 ⟨b, hd, hq⟩ => ?_⟩⟩
  subst hd
  exact ⟨b, i1.bl_inv, k _ e1 _ F1 H1 R1 s1 (.bl _) hq⟩
theorem chain_of {pr : Hp} {σ : L2.St} {H : Hp} {Q : VK} (h : tE X.K X.mg J pr (wChain O O' wa wb wc) σ H Q) :
    tChain (fun x y H Q => rP X.K X.mg J O [x, y] H Q) (fun x y H Q => rP X.K X.mg J O' [x, y] H Q) (tBo X.K X.mg J pr wa) (tBo X.K X.mg J pr wb) (tBo X.K X.mg J pr wc) σ H Q := by
  obtain ⟨env, F, q, R, hw, k⟩ := h
  refine ⟨env, F, _, R, hw, fun x e1 v F1 H1 R1 s1 i1 h1 => ⟨e1, F1, _, R1, h1, fun y e2 u F2 H2 R2 s2 i2 ⟨ds, h2, h3⟩ => ?_⟩⟩
  refine ⟨pr, F2, ds, _, R2.st, IsRA.res R2 (.cons (i1.mono s2) (.cons i2 .nil)) h2, h3, fun d z F' H' t i ⟨c, hd, hq⟩ => ?_⟩
  subst hd
  refine ⟨c, i.bl_inv, ?_⟩
  have R' := R2.stp t
  cases c with
  | true =>
    refine ⟨e2, F', _, R', hq, fun z e3 w F3 H3 R3 s3 i3 ⟨ds', h4, h5⟩ => ?_⟩
    exact rP_of R3 (.cons ((i2.mono t.ff).mono s3) (.cons i3 .nil)) h4 h5 fun d env' z F' H' R' s' i' hq => k d env' z F' H' R' ((((s1.trans s2).trans t.ff).trans s3).trans s') i' hq
  | false => exact k _ e2 _ F' H' R' ((s1.trans s2).trans t.ff) (.bl _) hq
theorem de_chain {op op' : CmpOp} (ho : OpD X J (compareOp op) O) (ho' : OpD X J (compareOp op') O') (ha : DB X J a wa) (hb : DB X J b wb) (hc : DB X J c wc) (hm : lastMarks [op, op'] [b, c] = false := by with_unfolding_all rfl) :
    DE X J (.Compare a [op, op'] [b, c] pos) (wChain O O' wa wb wc) := ⟨fun pr => PE.imp (pe_chain ho ho' (ha.run pr) (hb.run pr) (hc.run pr) hm) fun _ _ _ h => chain_of h⟩
theorem dt_chain {op op' : CmpOp} (ho : OpD X J (compareOp op) O) (ho' : OpD X J (compareOp op') O') (ha : DB X J a wa) (hb : DB X J b wb) (hc : DB X J c wc) (hm : lastMarks [op, op'] [b, c] = false := by with_unfolding_all rfl) :
    DT X J (.Compare a [op, op'] [b, c] pos) (wTB (wChain O O' wa wb wc)) := by
  refine ⟨fun pr => PT.imp (pt_chain ho ho' (ha.run pr) (hb.run pr) (hc.run pr) hm) fun σ H Q ⟨env, F, q, R, hw, k⟩ => ?_⟩
  refine chain_of ⟨env, F, _, R, hw, fun d e1 v F1 H1 R1 s1 i1 ⟨b, hd, hq⟩ => ?_⟩
  subst hd
  exact ⟨b, i1.bl_inv, k b e1 F1 H1 R1 s1 hq⟩
end

/-! ### calls of defs -/
abbrev Spec := GJ → Prim
/-- a def's promise by data -/
def spD (K : PySem.W.Frag) (mg : Str → Option Value) (S : Spec) (n : Nat) : Sp := fun vs H Q _ => vs.length = n ∧ ∃ (J : GJ) (pr F : Hp) (ds : List D) (q : D → Prop), St8 J pr F H ∧ IsA K mg F vs ds ∧ S J ds q ∧
  ∀ d z F' H', Stp J pr F H F' H' → Is K mg F' z d → q d → Q z H'
structure CalG (g : Bool) (P : Program) (w : World) (K : PySem.W.Frag) (mg : Str → Option Value) (base : Heap) (k : Nat) (x : Str) (S : Spec) (n : Nat) : Prop where
  ex : ∃ (f : Addr) (fd : FuncData) (ps : List Str), FnG g P w K mg base L2.CX0 k f fd ps (spD K mg S n) ∧ mg x = some (.ref f) ∧ PySem.W.keepIn K (.ref f) = true ∧ Binds K fd ps []
@[simp] def wCall (J : GJ) (S : Spec) (n : Nat) (w : WA) : WE := fun env q => w env fun as e1 => ∃ ds, reals as = some ds ∧ ds.length = n ∧ S J ds fun d => q d e1
section
variable {g : Bool} {X : Cx} {J : GJ} {S : Spec} {n k j : Nat} {x : Str} {p pos : Pos} {e : Expr} {es : List Expr} {w : WA}
theorem de_call (c : CalG g X.prog X.w X.K X.mg X.base k x S n) (hr : Rm g j X.A) (hk : k ≤ j) (hg : Gl X x) (ha : DA X J (e :: es) w)
    (hdb : (x == ("__debug__" : Str)) = false := by decide) (he : starEach (e :: es) X.env = (false, eval e X.env) :: starEach es X.env := by rfl) (hpl : (backTo pos (starEach es X.env)).any (·.1) = false := by rfl) :
    DE X J (.Call (.Name x p) (e :: es) [] pos) (wCall J S n w) := by
  obtain ⟨f, fd, ps, F, hm, hkp, hb⟩ := c.ex
  refine ⟨fun pr => PE.imp (pe_callG F (hr.mono hk) hg hm hkp hb L2.pass0 (ha.run pr) hdb he hpl) fun σ H Q ⟨env, F, q, R, hw, k⟩ => ?_⟩
  refine ⟨env, F, _, R, hw, fun as e1 vs F1 H1 R1 s1 i1 ⟨ds, h1, hn, h2⟩ => ?_⟩
  have ia := i1.real h1
  -- what the caller's slots own, beside what others own
  let own : Hp := fun b => open Classical in if ∃ (i : Nat) (s : Sl), e1[i]? = some s ∧ s.isOwn = true ∧ σ[i]? = some (some (V.ref b)) then H1 b else pr b
  have hown : ∀ b, (∃ (i : Nat) (s : Sl), e1[i]? = some s ∧ s.isOwn = true ∧ σ[i]? = some (some (V.ref b))) → own b = H1 b := fun b h => if_pos h
  have hnot : ∀ b, ¬ (∃ (i : Nat) (s : Sl), e1[i]? = some s ∧ s.isOwn = true ∧ σ[i]? = some (some (V.ref b))) → own b = pr b := fun b h => if_neg h
  have mine : ∀ {b : Addr} {i : Nat} {s : Sl}, e1[i]? = some s → s.isOwn = true → σ[i]? = some (some (.ref b)) → Mine J pr F1 b ∧ ∃ o, H1 b = some o ∧ NT o := fun {b i s} h1 h2 h3 => by
    have h := R1.sl i s _ h1 h3
    cases s with
    | no => cases h2
    | val d => cases h2
    | own xs =>
      obtain ⟨p, vs, ep, hp, _, m⟩ := h
      cases ep
      exact ⟨m, _, hp, nt_lst⟩
    | lat a0 xs =>
      obtain ⟨p, vs, ep, hp, _, m⟩ := h
      cases ep
      exact ⟨m, _, hp, nt_lst⟩
    | dk xs =>
      obtain ⟨p, vs, ep, hp, _, m⟩ := h
      cases ep
      exact ⟨m, _, hp, nt_dK⟩
    | dt xs =>
      obtain ⟨p, vs, ep, hp, _, m⟩ := h
      cases ep
      exact ⟨m, _, hp, nt_dT⟩
  have st : St8 J own F1 H1 := by
    refine ⟨R1.st.sub, fun b o hb => ?_, R1.st.inv, fun b m => ⟨(R1.st.mtF b m).1, ?_⟩, fun b o hb => ?_⟩
    · by_cases hx : ∃ (i : Nat) (s : Sl), e1[i]? = some s ∧ s.isOwn = true ∧ σ[i]? = some (some (V.ref b))
      · rw [hown b hx] at hb
        obtain ⟨i, s, a1, a2, a3⟩ := hx
        exact ⟨hb, (mine a1 a2 a3).1.f⟩
      · rw [hnot b hx] at hb
        exact R1.st.prk b o hb
    · have hx : ¬ ∃ (i : Nat) (s : Sl), e1[i]? = some s ∧ s.isOwn = true ∧ σ[i]? = some (some (V.ref b)) := fun ⟨i, s, a1, a2, a3⟩ => (mine a1 a2 a3).1.m m
      rw [hnot b hx]
      exact (R1.st.mtF b m).2
    · rcases hb with hb | hb
      · exact R1.st.nt b o (.inl hb)
      · by_cases hx : ∃ (i : Nat) (s : Sl), e1[i]? = some s ∧ s.isOwn = true ∧ σ[i]? = some (some (V.ref b))
        · rw [hown b hx] at hb
          obtain ⟨i, s, a1, a2, a3⟩ := hx
          obtain ⟨_, o', h1, h2⟩ := mine a1 a2 a3
          rw [h1] at hb
          cases hb
          exact h2
        · rw [hnot b hx] at hb
          exact R1.st.nt b o (.inr hb)
  refine ⟨by rw [ia.length]; exact hn, J, own, F1, ds, _, st, ia, h2, fun d z F' H' t i hq => ?_⟩
  have t' : Stp J pr F1 H1 F' H' := by
    refine ⟨⟨t.st.sub, fun b o hb => ?_, t.st.inv, fun b m => ⟨(t.st.mtF b m).1, (R1.st.mtF b m).2⟩, fun b o hb => hb.elim (fun hb => t.st.nt b o (.inl hb)) fun hb => R1.st.nt b o (.inr hb)⟩, t.ff, t.hh, t.nf⟩
    have hx : ¬ ∃ (i : Nat) (s : Sl), e1[i]? = some s ∧ s.isOwn = true ∧ σ[i]? = some (some (V.ref b)) := fun ⟨i, s, a1, a2, a3⟩ => by
      have m := (mine a1 a2 a3).1.q
      rw [hb] at m
      cases m
    have e := hnot b hx
    exact t.st.prk b o (e.trans hb)
  exact k d e1 z F' H' (R1.stp t') (s1.trans t.ff) i hq
end
end DL

/-! DL5: what is walked, targets, comprehensions. -/
namespace DL
open PySem PySem.Spec PyProof.Rows L2

/-! ### what is walked -/
structure ItOk (K : PySem.W.Frag) (mg : Str → Option Value) (J : GJ) (pr : Hp) (It : L2.It) (F0 : Hp) (xs : List D) : Prop where
  go : ∀ i F H, Same F0 F → Same F H → i < xs.length → It.go i H
  yld : ∀ i F H x H', Same F0 F → St8 J pr F H → i < xs.length → It.yld i H x H' → ∃ F' d, xs[i]? = some d ∧ Stp J pr F H F' H' ∧ Is K mg F' x d
  stop : ∀ i F H, Same F0 F → Same F H → xs.length ≤ i → It.stop i H
abbrev WI := En → (List D → En → Prop) → Prop
def tI (K : PySem.W.Frag) (mg : Str → Option Value) (J : GJ) (w : WI) : TI := fun σ H R => ∃ (pr : Hp) (env : En) (F : Hp) (r : List D → En → Prop), Rep K mg J pr env σ F H ∧ w env r ∧
  ∀ It xs env' F' H', Rep K mg J pr env' σ F' H' → Same F F' → (∀ pr', ItOk K mg J pr' It F' xs) → r xs env' → R It H'
structure DI (X : Cx) (J : GJ) (tg iter : Expr) (w : WI) : Prop where
  run : PI X tg iter (tI X.K X.mg J w)
section
variable {K : PySem.W.Frag} {mg : Str → Option Value} {J : GJ} {pr : Hp}
theorem itOk_list {a : Addr} {F0 : Hp} {vs : List V} {xs : List D} (h : F0 a = some (.lst vs)) (ia : IsA K mg F0 vs xs) : ItOk K mg J pr (Itl K a) F0 xs := by
  refine ⟨fun i F H s1 s2 hi => ?_, fun i F H x H' s1 st hi hy => ?_, fun i F H s1 s2 hi => ?_⟩
  · obtain ⟨v, hv, _⟩ := ia.get (List.getElem?_eq_getElem hi)
    exact ⟨vs, v, SqL.of (s2 _ _ (s1 _ _ h)), hv⟩
  · obtain ⟨v, hv, iv⟩ := ia.get (List.getElem?_eq_getElem hi)
    obtain ⟨rfl, f⟩ := hy
    have e := f vs (SqL.of (st.sub _ _ (s1 _ _ h)))
    rw [hv] at e
    cases e
    exact ⟨F, _, List.getElem?_eq_getElem hi, Stp.refl st, iv.mono s1⟩
  · exact ⟨vs, SqL.of (s2 _ _ (s1 _ _ h)), by rw [ia.length]; exact hi⟩
theorem itOk_tup {a : Addr} {F0 : Hp} {vs : List V} {xs : List D} (h : SqT K F0 a vs) (ia : IsA K mg F0 vs xs) : ItOk K mg J pr (Itt K a) F0 xs := by
  refine ⟨fun i F H s1 s2 hi => ?_, fun i F H x H' s1 st hi hy => ?_, fun i F H s1 s2 hi => ?_⟩
  · obtain ⟨v, hv, _⟩ := ia.get (List.getElem?_eq_getElem hi)
    exact ⟨vs, v, same_seqT s2 (same_seqT s1 h), hv⟩
  · obtain ⟨v, hv, iv⟩ := ia.get (List.getElem?_eq_getElem hi)
    obtain ⟨rfl, f⟩ := hy
    have e := f vs (same_seqT st.sub (same_seqT s1 h))
    rw [hv] at e
    cases e
    exact ⟨F, _, List.getElem?_eq_getElem hi, Stp.refl st, iv.mono s1⟩
  · exact ⟨vs, same_seqT s2 (same_seqT s1 h), by rw [ia.length]; exact hi⟩
/-- lo, lo + c, .. (n of them) -/
def rgD (lo c : Int) (n : Nat) : List D := (List.range n).map fun i => D.int (lo + (i : Nat) * c)
theorem rgD_get {lo c : Int} {n i : Nat} (h : i < n) : (rgD lo c n)[i]? = some (.int (lo + (i : Nat) * c)) := by
  unfold rgD
  rw [List.getElem?_map, List.getElem?_range h]
  rfl
theorem rgD_length (lo c : Int) (n : Nat) : (rgD lo c n).length = n := by
  unfold rgD
  rw [List.length_map, List.length_range]
theorem itOk_rng {F0 : Hp} (lo : Int) (n : Nat) : ItOk K mg J pr (Itr lo n) F0 (rgD lo 1 n) := by
  refine ⟨fun i F H s1 s2 hi => ?_, fun i F H x H' s1 st hi hy => ?_, fun i F H s1 s2 hi => ?_⟩
  · rw [rgD_length] at hi
    exact hi
  · rw [rgD_length] at hi
    obtain ⟨rfl, rfl⟩ := hy
    refine ⟨F, _, rgD_get hi, Stp.refl st, ?_⟩
    rw [Int.mul_one]
    exact .int _
  · rw [rgD_length] at hi
    exact hi
theorem itOk_rngC {F0 : Hp} (lo c : Int) (n : Nat) : ItOk K mg J pr (Itc lo c n) F0 (rgD lo c n) := by
  refine ⟨fun i F H s1 s2 hi => ?_, fun i F H x H' s1 st hi hy => ?_, fun i F H s1 s2 hi => ?_⟩
  · rw [rgD_length] at hi
    exact hi
  · rw [rgD_length] at hi
    obtain ⟨rfl, rfl⟩ := hy
    exact ⟨F, _, rgD_get hi, Stp.refl st, .int _⟩
  · rw [rgD_length] at hi
    exact hi
end
/-- a list or a tuple -/
@[simp] def wIs (w : WE) : WI := fun env r => w env fun d e1 => match d with
  | .lst xs => r xs e1
  | .tup xs => r xs e1
  | _ => False
@[simp] def wR1 (w : WA) : WI := fun env r => w env fun as e1 => ∃ j : Int, reals as = some [.int j] ∧ (-(2 ^ 62) ≤ j ∧ j < 2 ^ 62) ∧ r (rgD 0 1 j.toNat) e1
@[simp] def wR2 (w : WA) : WI := fun env r => w env fun as e1 => ∃ i j : Int, reals as = some [.int i, .int j] ∧ (-(2 ^ 62) ≤ i ∧ i < 2 ^ 62 ∧ -(2 ^ 62) ≤ j ∧ j < 2 ^ 62) ∧ r (rgD i 1 (j - i).toNat) e1
@[simp] def wR3 (w : WA) : WI := fun env r => w env fun as e1 => ∃ (i j c : Int) (n : Nat), reals as = some [.int i, .int j, .int c] ∧ RgC i j c n ∧ r (rgD i c n) e1
section
variable {X : Cx} {J : GJ} {tg e a b c : Expr} {we : WE} {w : WA} {p pos : Pos}
theorem di_seq (h : DE X J e we) : DI X J tg e (wIs we) := by
  refine ⟨⟨fun pins s σ H R I ⟨pr, env, F, r, R0, hw, k⟩ => ?_⟩⟩
  refine thn ((h.run pr).run pins s σ H (fun v H1 => ∃ d env' F', Rep X.K X.mg J pr env' σ F' H1 ∧ Same F F' ∧ Is X.K X.mg F' v d ∧ (match d with
    | .lst xs => r xs env'
    | .tup xs => r xs env'
    | _ => False)) I ⟨env, F, _, R0, hw, fun d env' v F' H' R' s' i hq => ⟨d, env', F', R', s', i, hq⟩⟩) fun u s1 ⟨x, H1, I1, r1, d, env', F', R', s', i, hq⟩ => ?_
  cases d with
  | lst xs =>
    obtain ⟨p, vs, rfl, h1, ia⟩ := i.lst_inv
    cases r1
    obtain ⟨its, rv, hp, hz⟩ := I1.list (SqL.of (R'.st.sub _ _ h1))
    exact wpAny_pyIter_list hp.isList (pi_one (tk := s1.toks) I1 _ (turn_list _ _) ⟨_, Heap.get?_push_size _ rfl, rfl, rfl⟩ (k _ xs env' F' H1 R' s' (fun _ => itOk_list h1 ia) hq))
  | tup xs =>
    obtain ⟨p, vs, rfl, h1, ia⟩ := i.tup_inv
    cases r1
    obtain ⟨its, rv, hp, hz⟩ := I1.tuple (same_seqT R'.st.sub h1)
    exact wpAny_pyIter_tuple (show s1.heap.IsTuple p its.toArray from hp) (pi_one (tk := s1.toks) I1 _ (turn_tuple _ _) ⟨_, Heap.get?_push_size _ rfl, rfl, rfl⟩ (k _ xs env' F' H1 R' s' (fun _ => itOk_tup h1 ia) hq))
  | non => exact hq.elim
  | bl _ => exact hq.elim
  | int _ => exact hq.elim
  | str _ => exact hq.elim
  | ins _ _ => exact hq.elim
  | tk _ => exact hq.elim
  | ty _ => exact hq.elim
  | cls _ => exact hq.elim
theorem PI.imp {wi wi' : TI} (h : PI X tg e wi) (i : ∀ σ H R, wi' σ H R → wi σ H R) : PI X tg e wi' := ⟨fun pins s σ H R I q => h.run pins s σ H R I (i _ _ _ q)⟩
theorem ints1 {K : PySem.W.Frag} {mg : Str → Option Value} {F : Hp} {vs : List V} {i : Int} (h : IsA K mg F vs [.int i]) : vs = [.int i] := by
  obtain ⟨v, rfl, h1⟩ := h.one_inv
  rw [h1.int_inv]
theorem ints2 {K : PySem.W.Frag} {mg : Str → Option Value} {F : Hp} {vs : List V} {i j : Int} (h : IsA K mg F vs [.int i, .int j]) : vs = [.int i, .int j] := by
  obtain ⟨v, u, rfl, h1, h2⟩ := h.two_inv
  rw [h1.int_inv, h2.int_inv]
theorem ints3 {K : PySem.W.Frag} {mg : Str → Option Value} {F : Hp} {vs : List V} {i j k : Int} (h : IsA K mg F vs [.int i, .int j, .int k]) : vs = [.int i, .int j, .int k] := by
  obtain ⟨v, r, rfl, h1, t⟩ := h.cons_inv
  rw [h1.int_inv, ints2 t]
theorem di_r1 (hg : Gl X "range") (hm : X.mg "range" = none) (ha : DA X J [a] w) (hs : starEach [a] X.env = [(false, eval a X.env)] := by rfl) : DI X J tg (.Call (.Name "range" p) [a] [] pos) (wR1 w) := by
  refine ⟨⟨fun pins s σ H R I ⟨pr, env, F, r, R0, hw, k⟩ => (pi_range1 hg hm (ha.run pr) hs).run pins s σ H R I ⟨env, F, _, R0, hw, fun as e1 vs F1 H1 R1 s1 i1 ⟨j, hj, h1, h2⟩ => ?_⟩⟩⟩
  exact ⟨j, ints1 (i1.real hj), h1.1, h1.2, k _ _ e1 F1 H1 R1 s1 (fun _ => itOk_rng 0 _) h2⟩
theorem di_r2 (hg : Gl X "range") (hm : X.mg "range" = none) (ha : DA X J [a, b] w) (hs : starEach [a, b] X.env = [(false, eval a X.env), (false, eval b X.env)] := by rfl) (hs2 : starEach [b] X.env = [(false, eval b X.env)] := by rfl) :
    DI X J tg (.Call (.Name "range" p) [a, b] [] pos) (wR2 w) := by
  refine ⟨⟨fun pins s σ H R I ⟨pr, env, F, r, R0, hw, k⟩ => (pi_range2 hg hm (ha.run pr) hs hs2).run pins s σ H R I ⟨env, F, _, R0, hw, fun as e1 vs F1 H1 R1 s1 i1 ⟨i, j, hj, h1, h2⟩ => ?_⟩⟩⟩
  exact ⟨i, j, ints2 (i1.real hj), h1, k _ _ e1 F1 H1 R1 s1 (fun _ => itOk_rng i _) h2⟩
theorem di_r3 (hg : Gl X "range") (hm : X.mg "range" = none) (ha : DA X J [a, b, c] w) (hs : starEach [a, b, c] X.env = (false, eval a X.env) :: starEach [b, c] X.env := by rfl) (hpl : (backTo pos (starEach [b, c] X.env)).any (·.1) = false := by rfl) :
    DI X J tg (.Call (.Name "range" p) [a, b, c] [] pos) (wR3 w) := by
  refine ⟨⟨fun pins s σ H R I ⟨pr, env, F, r, R0, hw, k⟩ => (pi_range3 hg hm (ha.run pr) hs hpl).run pins s σ H R I ⟨env, F, _, R0, hw, fun as e1 vs F1 H1 R1 s1 i1 ⟨i, j, l, n, hj, h1, h2⟩ => ?_⟩⟩⟩
  exact ⟨i, j, l, n, ints3 (i1.real hj), h1, k _ _ e1 F1 H1 R1 s1 (fun _ => itOk_rngC i l n) h2⟩
end

/-! ### targets: names, tuples of names -/
abbrev WG := D → En → (En → Prop) → Prop
/-- a target stores data; no slot but those of vs changes -/
def tG (K : PySem.W.Frag) (mg : Str → Option Value) (J : GJ) (vs : List Nat) (w : WG) : TG := fun v σ H Q => ∃ (pr : Hp) (env : En) (F : Hp) (d : D) (q : En → Prop), Rep K mg J pr env σ F H ∧ Is K mg F v d ∧ w d env q ∧
  ∀ env' σ' F' H', Rep K mg J pr env' σ' F' H' → Same F F' → (∀ i, i ∉ vs → σ'[i]? = σ[i]?) → σ'.length = σ.length → q env' → Q σ' H'
structure DG (X : Cx) (J : GJ) (tg : Expr) (vs : List Nat) (w : WG) : Prop where
  run : PG X tg (tG X.K X.mg J vs w)
abbrev WGs := List D → En → (En → Prop) → Prop
def tGs (K : PySem.W.Frag) (mg : Str → Option Value) (J : GJ) (vs : List Nat) (w : WGs) : TGs := fun xs σ H Q => ∃ (pr : Hp) (env : En) (F : Hp) (ds : List D) (q : En → Prop), Rep K mg J pr env σ F H ∧ IsA K mg F xs ds ∧ w ds env q ∧
  ∀ env' σ' F' H', Rep K mg J pr env' σ' F' H' → Same F F' → (∀ i, i ∉ vs → σ'[i]? = σ[i]?) → σ'.length = σ.length → q env' → Q σ' H'
structure DGs (X : Cx) (J : GJ) (ts : List Expr) (vs : List Nat) (w : WGs) : Prop where
  run : PGs X ts (tGs X.K X.mg J vs w)
@[simp] def gN (i : Nat) : WG := fun d env q => q (env.set i (.val d))
@[simp] def gNil : WGs := fun ds env q => ds = [] ∧ q env
@[simp] def gCons (w : WG) (wr : WGs) : WGs := fun ds env q => ∃ d r, ds = d :: r ∧ w d env fun e1 => wr r e1 q
@[simp] def gTup (n : Nat) (w : WGs) : WG := fun d env q => ∃ ds, d = .tup ds ∧ ds.length = n ∧ w ds env q
section
variable {X : Cx} {J : GJ} {e : Expr} {es : List Expr} {w : WG} {ws : WGs} {vs us : List Nat} {pos : Pos}
theorem PG.imp {g g' : TG} (h : PG X e g) (i : ∀ v σ H Q, g' v σ H Q → g v σ H Q) : PG X e g' := ⟨fun pins s σ H v u Q I r q => h.run pins s σ H v u Q I r (i _ _ _ _ q)⟩
theorem PGs.imp {g g' : TGs} (h : PGs X es g) (i : ∀ v σ H Q, g' v σ H Q → g v σ H Q) : PGs X es g' := ⟨fun pins s σ H v u Q I r q => h.run pins s σ H v u Q I r (i _ _ _ _ q)⟩
theorem dg_name (i : Nat) (h : PG X e (L2.gName i)) : DG X J e [i] (gN i) := by
  refine ⟨PG.imp h fun v σ H Q ⟨pr, env, F, d, q, R, iv, hw, k⟩ => ?_⟩
  refine k _ (σ.set i (some v)) F H (R.store iv) (Same.refl _) (fun j hj => List.getElem?_set_ne (fun z => hj (by simp [z]))) (List.length_set ..) hw
theorem dgs_nil : DGs X J [] [] gNil := by
  refine ⟨PGs.imp pgs_nil fun v σ H Q ⟨pr, env, F, ds, q, R, iv, ⟨hd, hq⟩, k⟩ => ?_⟩
  subst hd
  exact ⟨iv.nil_inv, k env σ F H R (Same.refl _) (fun _ _ => rfl) rfl hq⟩
theorem dgs_cons (h : DG X J e us w) (h' : DGs X J es vs ws) (hs : (assignEach (e :: es) X.env).map (·.2) = assign e X.env :: (assignEach es X.env).map (·.2) := by rfl) : DGs X J (e :: es) (us ++ vs) (gCons w ws) := by
  refine ⟨PGs.imp (pgs_cons h.run h'.run hs) fun v σ H Q ⟨pr, env, F, ds, q, R, iv, ⟨d, r, hd, hq⟩, k⟩ => ?_⟩
  subst hd
  obtain ⟨x, xs, rfl, ix, ixs⟩ := iv.cons_inv
  refine ⟨x, xs, rfl, pr, env, F, d, _, R, ix, hq, fun e1 σ1 F1 H1 R1 s1 f1 l1 hq1 => ?_⟩
  refine ⟨pr, e1, F1, r, q, R1, ixs.mono s1, hq1, fun e2 σ2 F2 H2 R2 s2 f2 l2 hq2 => k e2 σ2 F2 H2 R2 (s1.trans s2) (fun i hi => ?_) (l2.trans l1) hq2⟩
  rw [List.mem_append, not_or] at hi
  exact (f2 i hi.2).trans (f1 i hi.1)
theorem dg_tup {k n} (hc : X.calm = true) (h : DGs X J es vs ws) (hn : (assignEach es X.env).length = n := by rfl) (hst : (assignEach es X.env).findIdx? (·.1) = none := by rfl) : DG X J (.Tuple es k pos) vs (gTup n ws) := by
  refine ⟨PG.imp (pg_tup hc h.run hn hst) fun v σ H Q ⟨pr, env, F, d, q, R, iv, ⟨ds, hd, hl, hq⟩, k⟩ => ?_⟩
  subst hd
  obtain ⟨a, xs, rfl, h1, ia⟩ := iv.tup_inv
  exact ⟨a, xs, rfl, same_seqT R.st.sub h1, by rw [ia.length]; exact hl, pr, env, F, ds, q, R, ia, hq, k⟩
end

/-! ### comprehensions -/
@[simp] def wipeE (env : En) : List Nat → En
  | [] => env
  | v :: vs => (wipeE env vs).set v .no
/-- the slots of vs as they stood ahead -/
@[simp] def backE (old env : En) : List Nat → En
  | [] => env
  | v :: vs => (backE old env vs).set v (old.getD v .no)
@[simp] def freeE (env : En) (vs : List Nat) : Prop := ∀ v ∈ vs, (env.getD v .no).isOwn = false
def lcGo (vs : List Nat) (g : WG) (tt : WT) (te : WE) (fin : List D → En → Prop) : List D → List D → En → Prop
  | [], acc, env => fin acc env
  | x :: xs, acc, env => g x env fun e2 => tt e2 fun b e3 => if b = true then te e3 fun y e4 => acc.length < sizeLine ∧ lcGo vs g tt te fin xs (acc ++ [y]) (wipeE e4 vs) else lcGo vs g tt te fin xs acc (wipeE e3 vs)
@[simp] def wLC (vs : List Nat) (wi : WI) (g : WG) (tt : WT) (te : WE) : WE := fun env q => wi env fun xs e1 => freeE e1 vs ∧ lcGo vs g tt te (fun acc e => q (.lst acc) (backE e1 e vs)) xs [] (wipeE e1 vs)
@[simp] def wYes : WT := fun env q => q true env
structure DTs (X : Cx) (J : GJ) (ifs : List Expr) (w : WT) : Prop where
  run : ∀ pr, PTs X ifs (tTs X.K X.mg J pr w)
section
variable {X : Cx} {J : GJ} {c : Expr} {w : WT}
theorem dts_nil : DTs X J [] wYes := ⟨fun pr => ⟨fun pins s σ H Q I ⟨env, F, q, R, hw, k⟩ => pts_nil.run pins s σ H Q I (k true env F H R (Same.refl _) hw)⟩⟩
theorem dts_one (h : DT X J c w) : DTs X J [c] w := ⟨fun pr => pts_one (h.run pr)⟩
end
section
variable {K : PySem.W.Frag} {mg : Str → Option Value} {J : GJ} {pr F H F' H' : Hp} {env old : En} {σ : L2.St}
theorem wipeE_length (env : En) : ∀ vs, (wipeE env vs).length = env.length
  | [] => rfl
  | v :: vs => by
    unfold wipeE
    rw [List.length_set, wipeE_length env vs]
theorem wipeE_get {i : Nat} {s : Sl} : ∀ {vs : List Nat}, (wipeE env vs)[i]? = some s → s = .no ∨ (env[i]? = some s ∧ i ∉ vs)
  | [], h => .inr ⟨h, by simp⟩
  | v :: vs, h => by
    unfold wipeE at h
    by_cases hv : v = i
    · subst hv
      obtain ⟨hl, h⟩ := List.getElem?_eq_some_iff.mp h
      simp only [List.getElem_set_self] at h
      exact .inl h.symm
    · rw [List.getElem?_set_ne hv] at h
      rcases wipeE_get h with h | ⟨h1, h2⟩
      · exact .inl h
      · refine .inr ⟨h1, ?_⟩
        simp only [List.mem_cons, not_or]
        exact ⟨fun z => hv z.symm, h2⟩
theorem wipe_get {i : Nat} : ∀ {vs : List Nat}, i ∉ vs → (wipe σ vs)[i]? = σ[i]?
  | [], _ => rfl
  | v :: vs, h => by
    simp only [List.mem_cons, not_or] at h
    unfold wipe
    rw [List.getElem?_set_ne (fun z => h.1 z.symm)]
    exact wipe_get h.2
theorem Rep.wipe (R : Rep K mg J pr env σ F H) (vs : List Nat) : Rep K mg J pr (wipeE env vs) (L2.wipe σ vs) F H := by
  refine ⟨R.st, by rw [wipeE_length, wipe_length]; exact R.len, fun i s o e1 e2 => ?_, fun i j s t ne e1 e2 hs ht => ?_⟩
  · rcases wipeE_get e1 with rfl | ⟨h1, h2⟩
    · trivial
    · rw [wipe_get h2] at e2
      exact R.sl i s o h1 e2
  · rcases wipeE_get e1 with rfl | ⟨h1, h2⟩
    · cases hs
    · rcases wipeE_get e2 with rfl | ⟨h3, h4⟩
      · cases ht
      · rw [wipe_get h2, wipe_get h4]
        exact R.dis i j s t ne h1 h3 hs ht
theorem backE_length (old env : En) : ∀ vs, (backE old env vs).length = env.length
  | [] => rfl
  | v :: vs => by
    unfold backE
    rw [List.length_set, backE_length old env vs]
theorem backE_get {i : Nat} {s : Sl} : ∀ {vs : List Nat}, (backE old env vs)[i]? = some s → (s = old.getD i .no ∧ i ∈ vs) ∨ (env[i]? = some s ∧ i ∉ vs)
  | [], h => .inr ⟨h, by simp⟩
  | v :: vs, h => by
    unfold backE at h
    by_cases hv : v = i
    · subst hv
      obtain ⟨hl, h⟩ := List.getElem?_eq_some_iff.mp h
      simp only [List.getElem_set_self] at h
      exact .inl ⟨h.symm, by simp⟩
    · rw [List.getElem?_set_ne hv] at h
      rcases backE_get h with ⟨h1, h2⟩ | ⟨h1, h2⟩
      · exact .inl ⟨h1, by simp [h2]⟩
      · refine .inr ⟨h1, ?_⟩
        simp only [List.mem_cons, not_or]
        exact ⟨fun z => hv z.symm, h2⟩
/-- the slots of the block forgotten, those of the def as they stood -/
theorem Rep.back {vs : List Nat} (R0 : Rep K mg J pr old σ F H) (fr : freeE old vs) (R : Rep K mg J pr env (L2.wipe σ vs) F' H') (s : Same F F') : Rep K mg J pr (backE old env vs) σ F' H' := by
  have val : ∀ {i : Nat} {s' : Sl} {o : Option V}, s' = old.getD i .no → i ∈ vs → σ[i]? = some o → SlOk K mg J pr F' H' o s' := fun {i s' o} e hi eo => by
    have hf := fr i hi
    rw [← e] at hf
    have hl : i < old.length := by
      rw [R0.len]
      exact (List.getElem?_eq_some_iff.mp eo).1
    have e1 : old[i]? = some s' := by
      rw [e, List.getD_eq_getElem?_getD, List.getElem?_eq_getElem hl]
      rfl
    have h := R0.sl i s' o e1 eo
    cases s' with
    | no => trivial
    | val d =>
      obtain ⟨v, ev, iv⟩ := h
      exact ⟨v, ev, iv.mono s⟩
    | own _ => cases hf
    | lat _ _ => cases hf
    | dk _ => cases hf
    | dt _ => cases hf
  refine ⟨R.st, by rw [backE_length, R.len, wipe_length], fun i s' o e1 e2 => ?_, fun i j s' t ne e1 e2 hs ht => ?_⟩
  · rcases backE_get e1 with ⟨h1, h2⟩ | ⟨h1, h2⟩
    · exact val h1 h2 e2
    · exact R.sl i s' o h1 (by rw [wipe_get h2]; exact e2)
  · rcases backE_get e1 with ⟨h1, h2⟩ | ⟨h1, h2⟩
    · rw [h1, fr i h2] at hs
      cases hs
    · rcases backE_get e2 with ⟨h3, h4⟩ | ⟨h3, h4⟩
      · rw [h3, fr j h4] at ht
        cases ht
      · have := R.dis i j s' t ne h1 h3 hs ht
        rwa [wipe_get h2, wipe_get h4] at this
/-- with one more object that somebody owns -/
theorem Rep.more {D : Addr} {o : HO} (R : Rep K mg J pr env σ F H) (h : H D = some o) (m : Mine J pr F D) (ho : NT o) (al : ∀ (i : Nat) (s : Sl), env[i]? = some s → s.isOwn = true → σ[i]? ≠ some (some (.ref D))) : Rep K mg J (upd pr D o) env σ F H := by
  refine ⟨⟨R.st.sub, fun b x e => ?_, R.st.inv, fun b mt => ?_, fun b x e => ?_⟩, R.len, fun i s q e1 e2 => ?_, R.dis⟩
  · by_cases hb : b = D
    · subst hb
      rw [upd_same] at e
      cases e
      exact ⟨h, m.f⟩
    · rw [upd_ne hb] at e
      exact R.st.prk b x e
  · have hb : b ≠ D := fun z => by
      subst z
      exact m.m mt
    rw [upd_ne hb]
    exact R.st.mtF b mt
  · rcases e with e | e
    · exact R.st.nt b x (.inl e)
    · by_cases hb : b = D
      · subst hb
        rw [upd_same] at e
        cases e
        exact ho
      · rw [upd_ne hb] at e
        exact R.st.nt b x (.inr e)
  · have hh := R.sl i s q e1 e2
    have ne : ∀ {p : Addr}, s.isOwn = true → q = some (.ref p) → p ≠ D := fun {p} hs hq z => by
      subst z
      exact al i s e1 hs (by rw [e2, hq])
    cases s with
    | no => trivial
    | val d => exact hh
    | own xs =>
      obtain ⟨p, vs, ep, h1, ia, mm⟩ := hh
      exact ⟨p, vs, ep, h1, ia, mm.f, by rw [upd_ne (ne rfl ep)]; exact mm.q, mm.m⟩
    | lat a0 xs =>
      obtain ⟨p, vs, ep, h1, ia, mm⟩ := hh
      exact ⟨p, vs, ep, h1, ia, mm.f, by rw [upd_ne (ne rfl ep)]; exact mm.q, mm.m⟩
    | dk xs =>
      obtain ⟨p, vs, ep, h1, ia, mm⟩ := hh
      exact ⟨p, vs, ep, h1, ia, mm.f, by rw [upd_ne (ne rfl ep)]; exact mm.q, mm.m⟩
    | dt xs =>
      obtain ⟨p, vs, ep, h1, ia, mm⟩ := hh
      exact ⟨p, vs, ep, h1, ia, mm.f, by rw [upd_ne (ne rfl ep)]; exact mm.q, mm.m⟩
/-- that object is written -/
theorem Rep.wr {D : Addr} {o o' : HO} (R : Rep K mg J (upd pr D o) env σ F H) (q : pr D = none) (ho : NT o') (hx : ∀ φ, o ≠ .ext φ) : Rep K mg J (upd pr D o') env σ F (upd H D o') := by
  have hD := R.st.prk D o upd_same
  have mD : ¬ J.mt D := fun z => by
    have := (R.st.mtF D z).2
    rw [upd_same] at this
    cases this
  refine ⟨⟨fun b x e => ?_, fun b x e => ?_, J.stay F H _ _ R.st.inv (Same.refl _) (fun b mt => upd_ne (fun z => mD (z ▸ mt))) (fun b φ h => (upd_ne (fun z => by subst z; rw [hD.1] at h; exact hx φ (Option.some.inj h))).trans h), fun b mt => ?_, fun b x e => ?_⟩, R.len, fun i s u e1 e2 => ?_, R.dis⟩
  · rw [upd_ne (ne_of_none e hD.2)]
    exact R.st.sub b x e
  · by_cases hb : b = D
    · subst hb
      rw [upd_same] at e ⊢
      exact ⟨e, hD.2⟩
    · rw [upd_ne hb] at e
      rw [upd_ne hb]
      exact R.st.prk b x (by rw [upd_ne hb]; exact e)
  · have hb : b ≠ D := fun z => mD (z ▸ mt)
    have := R.st.mtF b mt
    rw [upd_ne hb] at this ⊢
    exact this
  · rcases e with e | e
    · exact R.st.nt b x (.inl e)
    · by_cases hb : b = D
      · subst hb
        rw [upd_same] at e
        cases e
        exact ho
      · rw [upd_ne hb] at e
        exact R.st.nt b x (.inr (by rw [upd_ne hb]; exact e))
  · have hh := R.sl i s u e1 e2
    have ne : ∀ {p : Addr}, upd pr D o p = none → p ≠ D := fun {p} hp z => by
      subst z
      rw [upd_same] at hp
      cases hp
    cases s with
    | no => trivial
    | val d => exact hh
    | own xs =>
      obtain ⟨p, vs, ep, h1, ia, mm⟩ := hh
      have n := ne mm.q
      exact ⟨p, vs, ep, by rw [upd_ne n]; exact h1, ia, mm.f, by have := mm.q; rw [upd_ne n] at this ⊢; exact this, mm.m⟩
    | lat a0 xs =>
      obtain ⟨p, vs, ep, h1, ia, mm⟩ := hh
      have n := ne mm.q
      exact ⟨p, vs, ep, by rw [upd_ne n]; exact h1, ia, mm.f, by have := mm.q; rw [upd_ne n] at this ⊢; exact this, mm.m⟩
    | dk xs =>
      obtain ⟨p, vs, ep, h1, ia, mm⟩ := hh
      have n := ne mm.q
      exact ⟨p, vs, ep, by rw [upd_ne n]; exact h1, ia, mm.f, by have := mm.q; rw [upd_ne n] at this ⊢; exact this, mm.m⟩
    | dt xs =>
      obtain ⟨p, vs, ep, h1, ia, mm⟩ := hh
      have n := ne mm.q
      exact ⟨p, vs, ep, by rw [upd_ne n]; exact h1, ia, mm.f, by have := mm.q; rw [upd_ne n] at this ⊢; exact this, mm.m⟩
/-- .. and given back: it is ours -/
theorem Rep.less {D : Addr} {o : HO} (R : Rep K mg J (upd pr D o) env σ F H) (q : pr D = none) : Rep K mg J pr env σ F H ∧ H D = some o ∧ Mine J pr F D ∧ ∀ (i : Nat) (s : Sl), env[i]? = some s → s.isOwn = true → σ[i]? ≠ some (some (.ref D)) := by
  have hD := R.st.prk D o upd_same
  have mD : ¬ J.mt D := fun z => by
    have := (R.st.mtF D z).2
    rw [upd_same] at this
    cases this
  have ne : ∀ {p : Addr}, upd pr D o p = none → p ≠ D ∧ pr p = none := fun {p} hp => by
    have n : p ≠ D := fun z => by
      subst z
      rw [upd_same] at hp
      cases hp
    rw [upd_ne n] at hp
    exact ⟨n, hp⟩
  refine ⟨⟨⟨R.st.sub, fun b x e => ?_, R.st.inv, fun b mt => ⟨(R.st.mtF b mt).1, (ne (R.st.mtF b mt).2).2⟩, fun b x e => e.elim (fun e => R.st.nt b x (.inl e)) fun e => R.st.nt b x (.inr (by rw [upd_ne (ne_of_none e q)]; exact e))⟩, R.len, fun i s u e1 e2 => ?_, R.dis⟩, hD.1, ⟨hD.2, q, mD⟩, fun i s e1 hs e2 => ?_⟩
  · have hb : b ≠ D := ne_of_none e q
    exact R.st.prk b x (by rw [upd_ne hb]; exact e)
  · have hh := R.sl i s u e1 e2
    cases s with
    | no => trivial
    | val d => exact hh
    | own xs =>
      obtain ⟨p, vs, ep, h1, ia, mm⟩ := hh
      exact ⟨p, vs, ep, h1, ia, mm.f, (ne mm.q).2, mm.m⟩
    | lat a0 xs =>
      obtain ⟨p, vs, ep, h1, ia, mm⟩ := hh
      exact ⟨p, vs, ep, h1, ia, mm.f, (ne mm.q).2, mm.m⟩
    | dk xs =>
      obtain ⟨p, vs, ep, h1, ia, mm⟩ := hh
      exact ⟨p, vs, ep, h1, ia, mm.f, (ne mm.q).2, mm.m⟩
    | dt xs =>
      obtain ⟨p, vs, ep, h1, ia, mm⟩ := hh
      exact ⟨p, vs, ep, h1, ia, mm.f, (ne mm.q).2, mm.m⟩
  · have hh := R.sl i s _ e1 e2
    cases s with
    | no => cases hs
    | val d => cases hs
    | own xs =>
      obtain ⟨p, vs, ep, h1, ia, mm⟩ := hh
      cases ep
      exact (ne mm.q).1 rfl
    | lat a0 xs =>
      obtain ⟨p, vs, ep, h1, ia, mm⟩ := hh
      cases ep
      exact (ne mm.q).1 rfl
    | dk xs =>
      obtain ⟨p, vs, ep, h1, ia, mm⟩ := hh
      cases ep
      exact (ne mm.q).1 rfl
    | dt xs =>
      obtain ⟨p, vs, ep, h1, ia, mm⟩ := hh
      cases ep
      exact (ne mm.q).1 rfl
end
end DL

/-! DL6: comprehensions. -/
namespace DL
open PySem PySem.Spec PyProof.Rows L2

section
variable (K : PySem.W.Frag) (mg : Str → Option Value) (J : GJ)
def xE (w : WE) : TE := fun σ H Q => ∃ pr, tE K mg J pr w σ H Q
def xT (w : WT) : TT := fun σ H Q => ∃ pr, tTs K mg J pr w σ H Q
/-- a new list comes, its items known; nobody else's -/
def tNew (σ : L2.St) (pr F : Hp) (fin : List D → En → Prop) (Q : VK) : Prop := ∀ acc env' va (D : Addr) (F' H' : Hp), Rep K mg J pr env' σ F' H' → Same F F' → H' D = some (.lst va) → Mine J pr F' D →
  (∀ (i : Nat) (s : Sl), env'[i]? = some s → s.isOwn = true → σ[i]? ≠ some (some (.ref D))) → IsA K mg F' va acc → fin acc env' → Q (.ref D) H'
end
section
variable {X : Cx} {J : GJ} {e : Expr}
theorem DE.x {w : WE} (h : DE X J e w) : PE X e (xE X.K X.mg J w) := ⟨fun pins s σ H Q I ⟨pr, q⟩ => (h.run pr).run pins s σ H Q I q⟩
theorem DTs.x {ifs : List Expr} {w : WT} (h : DTs X J ifs w) : PTs X ifs (xT X.K X.mg J w) := ⟨fun pins s σ H Q I ⟨pr, q⟩ => (h.run pr).run pins s σ H Q I q⟩
end

theorem wipe_eq {σ σ2 : L2.St} {vs : List Nat} (h : ∀ i, i ∉ vs → σ2[i]? = (L2.wipe σ vs)[i]?) (l : σ2.length = (L2.wipe σ vs).length) : L2.wipe σ2 vs = L2.wipe σ vs := by
  have at_ : ∀ (τ : L2.St) (us : List Nat) (i : Nat), i ∈ us → i < τ.length → (L2.wipe τ us)[i]? = some none := by
    intro τ us
    induction us with
    | nil => intro i hi; cases hi
    | cons u us ih =>
      intro i hi hl
      unfold L2.wipe
      by_cases hu : u = i
      · subst hu
        exact List.getElem?_set_self (by rw [wipe_length]; exact hl)
      · rw [List.getElem?_set_ne hu]
        exact ih i ((List.mem_cons.mp hi).resolve_left fun z => hu z.symm) hl
  have l' : σ2.length = σ.length := by rw [l, wipe_length]
  refine List.ext_getElem? fun i => ?_
  by_cases hi : i ∈ vs
  · by_cases hl : i < σ.length
    · rw [at_ σ2 vs i hi (by omega), at_ σ vs i hi hl]
    · rw [List.getElem?_eq_none (by rw [wipe_length]; omega), List.getElem?_eq_none (by rw [wipe_length]; omega)]
  · rw [wipe_get hi, wipe_get hi]
    have := h i hi
    rwa [wipe_get hi] at this

section
variable {K : PySem.W.Frag} {mg : Str → Option Value} {J : GJ}
theorem Rep.apart {pr F H : Hp} {env : En} {σ : L2.St} (R : Rep K mg J pr env σ F H) {D : Addr} (n : H D = none) : Mine J pr F D ∧ ∀ (i : Nat) (s : Sl), env[i]? = some s → s.isOwn = true → σ[i]? ≠ some (some (.ref D)) := by
  refine ⟨⟨R.st.sub.free n, ?_, fun m => J.at_ F H D R.st.inv m n⟩, fun i s e1 hs e2 => ?_⟩
  · cases q : pr D with
    | none => rfl
    | some o =>
      rw [(R.st.prk D o q).1] at n
      cases n
  · have hh := R.sl i s _ e1 e2
    cases s with
    | no => cases hs
    | val d => cases hs
    | own xs =>
      obtain ⟨p, vs, ep, h1, _⟩ := hh
      cases ep
      rw [n] at h1
      cases h1
    | lat a0 xs =>
      obtain ⟨p, vs, ep, h1, _⟩ := hh
      cases ep
      rw [n] at h1
      cases h1
    | dk xs =>
      obtain ⟨p, vs, ep, h1, _⟩ := hh
      cases ep
      rw [n] at h1
      cases h1
    | dt xs =>
      obtain ⟨p, vs, ep, h1, _⟩ := hh
      cases ep
      rw [n] at h1
      cases h1
/-- the invariant of a comprehension -/
def LcW (K : PySem.W.Frag) (mg : Str → Option Value) (J : GJ) (pr F1 : Hp) (L : Addr) (τ : L2.St) (n : Nat) (go : Nat → List D → En → Prop) (i m : Nat) (H : Hp) : Prop :=
  ∃ acc va env F, Rep K mg J (upd pr L (.lst va)) env τ F H ∧ Same F1 F ∧ IsA K mg F va acc ∧ m = n - i ∧ i ≤ n ∧ go i acc env
theorem lc_rest {vs : List Nat} {g : WG} {tt : WT} {te : WE} {σ : L2.St} {H1 : Hp} {Q : VK} {pr : Hp} {e1 : En} {F1 : Hp} {fin : List D → En → Prop} {It : L2.It} {xs : List D} (R1 : Rep K mg J pr e1 σ F1 H1) (itok : ∀ pr', ItOk K mg J pr' It F1 xs)
    (fr : freeE e1 vs) (hgo : lcGo vs g tt te (fun acc e => fin acc (backE e1 e vs)) xs [] (wipeE e1 vs)) (k : tNew K mg J σ pr F1 fin Q) : tLc (fun _ H R => R It H) (tG K mg J vs g) (xT K mg J tt) (xE K mg J te) vs σ H1 Q := by
  intro D n
  obtain ⟨mD, al⟩ := R1.apart n
  refine ⟨LcW K mg J pr F1 D (L2.wipe σ vs) xs.length fun i acc e => lcGo vs g tt te (fun acc e => fin acc (backE e1 e vs)) (xs.drop i) acc e, ⟨xs.length, [], [], wipeE e1 vs, F1, ?_, Same.refl _, .nil, by omega, Nat.zero_le _, hgo⟩, ?_⟩
  · have R2 := (R1.wipe vs).stp ((R1.wipe vs).st.made (o := .lst []) n)
    obtain ⟨_, al'⟩ := (R1.wipe vs).apart n
    exact R2.more upd_same mD nt_lst al'
  · rintro i m Hc ⟨acc, va, env', F', R', s', ia, rfl, hi, hg'⟩
    by_cases hlt : i < xs.length
    · refine .inr ⟨(itok pr).go i F' Hc s' R'.st.sub hlt, fun H' => ∃ m', m' < xs.length - i ∧ LcW K mg J pr F1 D (L2.wipe σ vs) xs.length (fun i acc e => lcGo vs g tt te (fun acc e => fin acc (backE e1 e vs)) (xs.drop i) acc e) (i + 1) m' H', fun _ h => h, fun x H' hy => ?_⟩
      obtain ⟨F2, d, hd, t, ix⟩ := (itok _).yld i F' Hc x H' s' R'.st hlt hy
      have hdr : xs.drop i = d :: xs.drop (i + 1) := by
        obtain ⟨hl, e⟩ := List.getElem?_eq_some_iff.mp hd
        rw [List.drop_eq_getElem_cons hl, e]
      rw [hdr] at hg'
      refine ⟨_, env', F2, d, _, R'.stp t, ix, hg', fun env2 σ2 F3 H3 R3 s3 keep len hq => ?_⟩
      have ew : L2.wipe σ2 vs = L2.wipe σ vs := wipe_eq keep len
      refine ⟨ew, _, env2, F3, _, R3, hq, fun b env3 F4 H4 R4 s4 hq4 => ?_⟩
      have sF : Same F1 F4 := ((s'.trans t.ff).trans s3).trans s4
      have iaF : IsA K mg F4 va acc := ((ia.mono t.ff).mono s3).mono s4
      cases b with
      | true =>
        refine ⟨_, env3, F4, _, R4, hq4, fun y env5 v F5 H5 R5 s5 iy ⟨hl, hgo'⟩ => ?_⟩
        refine ⟨va, (R5.st.prk D _ upd_same).1, by rw [ia.length]; exact hl, xs.length - (i + 1), by omega, acc ++ [y], va ++ [v], wipeE env5 vs, F5, ?_, sF.trans s5, (iaF.mono s5).append (.cons iy .nil), rfl, by omega, hgo'⟩
        have R6 := R5.wipe vs
        rw [ew] at R6
        exact R6.wr mD.q nt_lst fun φ z => by cases z
      | false =>
        refine ⟨xs.length - (i + 1), by omega, acc, va, wipeE env3 vs, F4, ?_, sF, iaF, rfl, by omega, hq4⟩
        have R6 := R4.wipe vs
        rw [ew] at R6
        exact R6
    · have e : i = xs.length := by omega
      subst e
      refine .inl ⟨(itok pr).stop _ F' Hc s' R'.st.sub (Nat.le_refl _), ?_⟩
      rw [List.drop_length] at hg'
      obtain ⟨R2, h1, m2, al2⟩ := R'.less mD.q
      refine k acc _ va D F' Hc (R1.back fr R2 s') s' h1 m2 (fun j s e1 hs e2 => ?_) ia hg'
      rcases backE_get e1 with ⟨h3, h4⟩ | ⟨h3, h4⟩
      · rw [h3, fr j h4] at hs
        cases hs
      · exact al2 j s h3 hs (by rw [wipe_get h4]; exact e2)
theorem lc_of {vs : List Nat} {wi : WI} {g : WG} {tt : WT} {te : WE} {σ : L2.St} {H : Hp} {Q : VK} {pr : Hp} {env : En} {F : Hp} {fin : List D → En → Prop} (R : Rep K mg J pr env σ F H)
    (hw : wi env fun xs e1 => freeE e1 vs ∧ lcGo vs g tt te (fun acc e => fin acc (backE e1 e vs)) xs [] (wipeE e1 vs)) (k : tNew K mg J σ pr F fin Q) : tLc (tI K mg J wi) (tG K mg J vs g) (xT K mg J tt) (xE K mg J te) vs σ H Q := by
  refine ⟨pr, env, F, _, R, hw, fun It xs e1 F1 H1 R1 s1 itok ⟨fr, hgo⟩ => lc_rest R1 itok fr hgo fun acc env' va D F' H' R' s => k acc env' va D F' H' R' (s1.trans s)⟩
theorem new_frz {σ : L2.St} {pr F : Hp} {q : D → En → Prop} {Q : VK} (k : ∀ d env' v F' H', Rep K mg J pr env' σ F' H' → Same F F' → Is K mg F' v d → q d env' → Q v H') : tNew K mg J σ pr F (fun acc e => q (.lst acc) e) Q := by
  intro acc env' va D F' H' R s h m al ia hq
  have sm : Same F' (upd F' D (.lst va)) := same_upd' m.f
  refine k _ env' _ (upd F' D (.lst va)) H' ⟨R.st.freeze h m.f m.q m.m nt_lst, R.len, fun i s o e1 e2 => ?_, R.dis⟩ (s.trans sm) (.lst upd_same (ia.mono sm)) hq
  have hh := R.sl i s o e1 e2
  have ne : ∀ {p : Addr}, s.isOwn = true → o = some (.ref p) → p ≠ D := fun {p} hs ho z => by
    subst z
    exact al i s e1 hs (by rw [e2, ho])
  cases s with
  | no => trivial
  | val d =>
    obtain ⟨v, ev, iv⟩ := hh
    exact ⟨v, ev, iv.mono sm⟩
  | own xs =>
    obtain ⟨p, vs, ep, h1, ia, mm⟩ := hh
    exact ⟨p, vs, ep, h1, ia.mono sm, by rw [upd_ne (ne rfl ep)]; exact mm.f, mm.q, mm.m⟩
  | lat a0 xs =>
    obtain ⟨p, vs, ep, h1, ia, mm⟩ := hh
    exact ⟨p, vs, ep, h1, ia.mono sm, by rw [upd_ne (ne rfl ep)]; exact mm.f, mm.q, mm.m⟩
  | dk xs =>
    obtain ⟨p, vs, ep, h1, ia, mm⟩ := hh
    exact ⟨p, vs, ep, h1, ia.mono sm, by rw [upd_ne (ne rfl ep)]; exact mm.f, mm.q, mm.m⟩
  | dt xs =>
    obtain ⟨p, vs, ep, h1, ia, mm⟩ := hh
    exact ⟨p, vs, ep, h1, ia.mono sm, by rw [upd_ne (ne rfl ep)]; exact mm.f, mm.q, mm.m⟩

/-! two clauses -/
def lc2In (vs vs1 : List Nat) (g1 : WG) (tt1 : WT) (te : WE) (nx : List D → En → Prop) : List D → List D → En → Prop
  | [], acc, env => nx acc env
  | x :: xs, acc, env => g1 x env fun e2 => tt1 e2 fun b e3 => if b = true then te e3 fun y e4 => acc.length < sizeLine ∧ lc2In vs vs1 g1 tt1 te nx xs (acc ++ [y]) (wipeE e4 vs1) else lc2In vs vs1 g1 tt1 te nx xs acc (wipeE e3 vs1)
def lc2Go (vs vs1 : List Nat) (g : WG) (tt : WT) (wi1 : WI) (g1 : WG) (tt1 : WT) (te : WE) (fin : List D → En → Prop) : List D → List D → En → Prop
  | [], acc, env => fin acc env
  | x :: xs, acc, env => g x env fun e2 => tt e2 fun b e3 => if b = true then wi1 e3 fun ys e4 => lc2In vs vs1 g1 tt1 te (fun acc e => lc2Go vs vs1 g tt wi1 g1 tt1 te fin xs acc (wipeE e vs)) ys acc (wipeE e4 vs1)
    else lc2Go vs vs1 g tt wi1 g1 tt1 te fin xs acc (wipeE e3 vs)
@[simp] def wLC2 (vs vs1 : List Nat) (wi : WI) (g : WG) (tt : WT) (wi1 : WI) (g1 : WG) (tt1 : WT) (te : WE) : WE := fun env q => wi env fun xs e1 => freeE e1 vs ∧ lc2Go vs vs1 g tt wi1 g1 tt1 te (fun acc e => q (.lst acc) (backE e1 e vs)) xs [] (wipeE e1 vs)
theorem wipe_sub {σ σ2 : L2.St} {vs vs1 : List Nat} (hv : ∀ i ∈ vs1, i ∈ vs) (h : L2.wipe σ vs1 = L2.wipe σ2 vs1) : L2.wipe σ vs = L2.wipe σ2 vs := by
  have hl : σ.length = σ2.length := by
    have := congrArg List.length h
    rwa [wipe_length, wipe_length] at this
  rw [← wipe_idem σ2 vs]
  refine wipe_eq (fun i hi => ?_) ?_
  · have hi1 : i ∉ vs1 := fun z => hi (hv i z)
    have := congrArg (fun l : L2.St => l[i]?) h
    simp only [wipe_get hi1] at this
    rw [wipe_get hi, wipe_get hi]
    exact this
  · rw [wipe_length, wipe_length, hl]
where wipe_idem (σ : L2.St) (vs : List Nat) : L2.wipe (L2.wipe σ vs) vs = L2.wipe σ vs := wipe_eq (fun i hi => rfl) rfl
theorem lc2_of {vs vs1 : List Nat} {wi wi1 : WI} {g g1 : WG} {tt tt1 : WT} {te : WE} {σ : L2.St} {H : Hp} {Q : VK} {pr : Hp} {env : En} {F : Hp} {fin : List D → En → Prop} (hv : ∀ i ∈ vs1, i ∈ vs) (R : Rep K mg J pr env σ F H)
    (hw : wi env fun xs e1 => freeE e1 vs ∧ lc2Go vs vs1 g tt wi1 g1 tt1 te (fun acc e => fin acc (backE e1 e vs)) xs [] (wipeE e1 vs)) (k : tNew K mg J σ pr F fin Q) :
    tLc2 (tI K mg J wi) (tG K mg J vs g) (xT K mg J tt) (tI K mg J wi1) (tG K mg J vs1 g1) (xT K mg J tt1) (xE K mg J te) vs vs1 σ H Q := by
  refine ⟨pr, env, F, _, R, hw, fun It xs e1 F1 H1 R1 s1 itok ⟨fr, hgo⟩ D n => ?_⟩
  obtain ⟨mD, al⟩ := R1.apart n
  refine ⟨LcW K mg J pr F1 D (L2.wipe σ vs) xs.length fun i acc e => lc2Go vs vs1 g tt wi1 g1 tt1 te (fun acc e => fin acc (backE e1 e vs)) (xs.drop i) acc e, ⟨xs.length, [], [], wipeE e1 vs, F1, ?_, Same.refl _, .nil, by omega, Nat.zero_le _, hgo⟩, ?_⟩
  · have R2 := (R1.wipe vs).stp ((R1.wipe vs).st.made (o := .lst []) n)
    obtain ⟨_, al'⟩ := (R1.wipe vs).apart n
    exact R2.more upd_same mD nt_lst al'
  · rintro i m Hc ⟨acc, va, env', F', R', s', ia, rfl, hi, hg'⟩
    by_cases hlt : i < xs.length
    · refine .inr ⟨(itok pr).go i F' Hc s' R'.st.sub hlt, fun H' => ∃ m', m' < xs.length - i ∧ LcW K mg J pr F1 D (L2.wipe σ vs) xs.length (fun i acc e => lc2Go vs vs1 g tt wi1 g1 tt1 te (fun acc e => fin acc (backE e1 e vs)) (xs.drop i) acc e) (i + 1) m' H', fun _ h => h, fun x H' hy => ?_⟩
      obtain ⟨F2, d, hd, t, ix⟩ := (itok _).yld i F' Hc x H' s' R'.st hlt hy
      have hdr : xs.drop i = d :: xs.drop (i + 1) := by
        obtain ⟨hl, e⟩ := List.getElem?_eq_some_iff.mp hd
        rw [List.drop_eq_getElem_cons hl, e]
      rw [hdr] at hg'
      refine ⟨_, env', F2, d, _, R'.stp t, ix, hg', fun env2 σ2 F3 H3 R3 s3 keep len hq => ?_⟩
      have ew : L2.wipe σ2 vs = L2.wipe σ vs := wipe_eq keep len
      refine ⟨ew, _, env2, F3, _, R3, hq, fun b env3 F4 H4 R4 s4 hq4 => ?_⟩
      have sF : Same F1 F4 := ((s'.trans t.ff).trans s3).trans s4
      have iaF : IsA K mg F4 va acc := ((ia.mono t.ff).mono s3).mono s4
      cases b with
      | false =>
        refine ⟨xs.length - (i + 1), by omega, acc, va, wipeE env3 vs, F4, ?_, sF, iaF, rfl, by omega, hq4⟩
        have R6 := R4.wipe vs
        rw [ew] at R6
        exact R6
      | true =>
        refine ⟨_, env3, F4, _, R4, hq4, fun It1 ys e4 F5 H5 R5 s5 itok1 hin => ?_⟩
        refine ⟨LcW K mg J pr F5 D (L2.wipe σ2 vs1) ys.length fun j acc e => lc2In vs vs1 g1 tt1 te (fun acc e => lc2Go vs vs1 g tt wi1 g1 tt1 te (fun acc e => fin acc (backE e1 e vs)) (xs.drop (i + 1)) acc (wipeE e vs)) (ys.drop j) acc e,
          ⟨ys.length, acc, va, wipeE e4 vs1, F5, R5.wipe vs1, Same.refl _, iaF.mono s5, by omega, Nat.zero_le _, hin⟩, ?_⟩
        rintro j m' Hd ⟨acc', va', env6, F6, R6, s6, ia6, rfl, hj, hg6⟩
        by_cases hjl : j < ys.length
        · refine .inr ⟨(itok1 pr).go j F6 Hd s6 R6.st.sub hjl, fun H' => ∃ m', m' < ys.length - j ∧ LcW K mg J pr F5 D (L2.wipe σ2 vs1) ys.length (fun j acc e => lc2In vs vs1 g1 tt1 te (fun acc e => lc2Go vs vs1 g tt wi1 g1 tt1 te (fun acc e => fin acc (backE e1 e vs)) (xs.drop (i + 1)) acc (wipeE e vs)) (ys.drop j) acc e) (j + 1) m' H', fun _ h => h, fun z H' hz => ?_⟩
          obtain ⟨F7, dz, hdz, t7, iz⟩ := (itok1 _).yld j F6 Hd z H' s6 R6.st hjl hz
          have hdy : ys.drop j = dz :: ys.drop (j + 1) := by
            obtain ⟨hl, e⟩ := List.getElem?_eq_some_iff.mp hdz
            rw [List.drop_eq_getElem_cons hl, e]
          rw [hdy] at hg6
          refine ⟨_, env6, F7, dz, _, R6.stp t7, iz, hg6, fun env8 σ8 F8 H8 R8 s8 keep8 len8 hq8 => ?_⟩
          have ew1 : L2.wipe σ8 vs1 = L2.wipe σ2 vs1 := wipe_eq keep8 len8
          refine ⟨ew1, _, env8, F8, _, R8, hq8, fun b env9 F9 H9 R9 s9 hq9 => ?_⟩
          have sF9 : Same F5 F9 := ((s6.trans t7.ff).trans s8).trans s9
          have iaF9 : IsA K mg F9 va' acc' := ((ia6.mono t7.ff).mono s8).mono s9
          cases b with
          | true =>
            refine ⟨_, env9, F9, _, R9, hq9, fun y envA v FA HA RA sA iy ⟨hl, hgo'⟩ => ?_⟩
            refine ⟨va', (RA.st.prk D _ upd_same).1, by rw [ia6.length]; exact hl, ys.length - (j + 1), by omega, acc' ++ [y], va' ++ [v], wipeE envA vs1, FA, ?_, sF9.trans sA, (iaF9.mono sA).append (.cons iy .nil), rfl, by omega, hgo'⟩
            have RB := RA.wipe vs1
            rw [ew1] at RB
            exact RB.wr mD.q nt_lst fun φ z => by cases z
          | false =>
            refine ⟨ys.length - (j + 1), by omega, acc', va', wipeE env9 vs1, F9, ?_, sF9, iaF9, rfl, by omega, hq9⟩
            have RB := R9.wipe vs1
            rw [ew1] at RB
            exact RB
        · have e : j = ys.length := by omega
          subst e
          refine .inl ⟨(itok1 pr).stop _ F6 Hd s6 R6.st.sub (Nat.le_refl _), ?_⟩
          rw [List.drop_length] at hg6
          refine ⟨xs.length - (i + 1), by omega, acc', va', wipeE env6 vs, F6, ?_, (sF.trans s5).trans s6, ia6, rfl, by omega, hg6⟩
          have RB := R6.wipe vs
          have e2 : L2.wipe (L2.wipe σ2 vs1) vs = L2.wipe σ2 vs := wipe_sub hv (wipe_sub.wipe_idem σ2 vs1)
          rw [e2, ew] at RB
          exact RB
    · have e : i = xs.length := by omega
      subst e
      refine .inl ⟨(itok pr).stop _ F' Hc s' R'.st.sub (Nat.le_refl _), ?_⟩
      rw [List.drop_length] at hg'
      obtain ⟨R2, h1, m2, al2⟩ := R'.less mD.q
      refine k acc _ va D F' Hc (R1.back fr R2 s') (s1.trans s') h1 m2 (fun j s e1 hs e2 => ?_) ia hg'
      rcases backE_get e1 with ⟨h3, h4⟩ | ⟨h3, h4⟩
      · rw [h3, fr j h4] at hs
        cases hs
      · exact al2 j s h3 hs (by rw [wipe_get h4]; exact e2)
end

section
variable {X : Cx} {J : GJ} {elt tg iter tg1 iter1 : Expr} {ifs ifs1 : List Expr} {scope : Scope} {own : List (Str × Nat)} {vs1 : List Nat} {pos : Pos} {wi wi1 : WI} {g g1 : WG} {tt tt1 : WT} {te : WE}
/-- the contexts of a comprehension's block -/
abbrev InBlk (X : Cx) (scope : Scope) (P : Cx → Prop) : Prop := ∀ (s : Shared) (H : Hp) (C : Addr) (cl : List (Str × Addr)) (fp : List Addr), P (X.blk s H scope (compEnvC scope cl C X.env) fp)
theorem de_lc (hc : X.calm = true) (hN : X.N.Nodup) (hi : DI X J tg iter wi) (ok : BlkOk X.N X.env.scope scope own) (hg : InBlk X scope fun Y => DG Y J tg (own.map (·.2)) g) (ht : InBlk X scope fun Y => DTs Y J ifs tt) (he : InBlk X scope fun Y => DE Y J elt te)
    (hs : ∀ x, foldedSetIterable iter X.env x = pure x := by intro _; rfl) : DE X J (.ListComp elt [⟨tg, iter, ifs, 0⟩] scope pos) (wLC (own.map (·.2)) wi g tt te) :=
  ⟨fun pr => PE.imp (pe_lc hc hN hi.run ok (fun s H C cl fp => (hg s H C cl fp).run) (fun s H C cl fp => (ht s H C cl fp).x) (fun s H C cl fp => (he s H C cl fp).x) hs) fun σ H Q ⟨env, F, q, R, hw, k⟩ => lc_of R hw (new_frz k)⟩
theorem de_lc2 (hc : X.calm = true) (hN : X.N.Nodup) (hi : DI X J tg iter wi) (ok : BlkOk X.N X.env.scope scope own) (hv : ∀ i ∈ vs1, i ∈ own.map (·.2)) (hg : InBlk X scope fun Y => DG Y J tg (own.map (·.2)) g) (ht : InBlk X scope fun Y => DTs Y J ifs tt)
    (hi1 : InBlk X scope fun Y => DI Y J tg1 iter1 wi1) (hg1 : InBlk X scope fun Y => DG Y J tg1 vs1 g1) (ht1 : InBlk X scope fun Y => DTs Y J ifs1 tt1) (he : InBlk X scope fun Y => DE Y J elt te)
    (hs : ∀ x, foldedSetIterable iter X.env x = pure x := by intro _; rfl) (hs1 : ∀ env x, foldedSetIterable iter1 env x = pure x := by intro _ _; rfl) : DE X J (.ListComp elt [⟨tg, iter, ifs, 0⟩, ⟨tg1, iter1, ifs1, 0⟩] scope pos) (wLC2 (own.map (·.2)) vs1 wi g tt wi1 g1 tt1 te) :=
  ⟨fun pr => PE.imp (pe_lc2 hc hN hi.run ok hv (fun s H C cl fp => (hg s H C cl fp).run) (fun s H C cl fp => (ht s H C cl fp).x) (fun s H C cl fp => (hi1 s H C cl fp).run) (fun s H C cl fp => (hg1 s H C cl fp).run) (fun s H C cl fp => (ht1 s H C cl fp).x) (fun s H C cl fp => (he s H C cl fp).x) hs hs1)
    fun σ H Q ⟨env, F, q, R, hw, k⟩ => lc2_of hv R hw (new_frz k)⟩
theorem DG.wide {X : Cx} {J : GJ} {tg : Expr} {vs us : List Nat} {w : WG} (h : DG X J tg vs w) (hv : ∀ i ∈ vs, i ∈ us) : DG X J tg us w :=
  ⟨PG.imp h.run fun v σ H Q ⟨pr, env, F, d, q, R, iv, hw, k⟩ => ⟨pr, env, F, d, q, R, iv, hw, fun env' σ' F' H' R' s' f l hq => k env' σ' F' H' R' s' (fun i hi => f i fun z => hi (hv i z)) l hq⟩⟩
end
end DL

/-! DL7: statements, and a def's promise from its body. -/
namespace DL
open PySem PySem.Spec PyProof.Rows L2

structure DEnds where
  nx : En → Prop
  rt : D → En → Prop
  bk : En → Prop := fun _ => False
  ct : En → Prop := fun _ => False
abbrev WS := En → DEnds → Prop
abbrev WV := En → (Sl → En → Prop) → Prop
section
variable (K : PySem.W.Frag) (mg : Str → Option Value) (J : GJ) (pr : Hp)
structure LeE (F : Hp) (E : DEnds) (Z : Ends) : Prop where
  nx : ∀ env' σ' F' H', Rep K mg J pr env' σ' F' H' → Same F F' → E.nx env' → Z.nx σ' H'
  rt : ∀ d v env' σ' F' H', Rep K mg J pr env' σ' F' H' → Same F F' → Is K mg F' v d → E.rt d env' → Z.rt v H'
  bk : ∀ env' σ' F' H', Rep K mg J pr env' σ' F' H' → Same F F' → E.bk env' → Z.bk σ' H'
  ct : ∀ env' σ' F' H', Rep K mg J pr env' σ' F' H' → Same F F' → E.ct env' → Z.ct σ' H'
end
def tS (K : PySem.W.Frag) (mg : Str → Option Value) (J : GJ) (w : WS) : TS := fun Z σ H => ∃ (pr : Hp) (env : En) (F : Hp) (E : DEnds), Rep K mg J pr env σ F H ∧ w env E ∧ LeE K mg J pr F E Z
structure DS (X : Cx) (J : GJ) (st : Stmt) (w : WS) : Prop where
  run : PS X st (tS X.K X.mg J w)
structure DSs (X : Cx) (J : GJ) (st : List Stmt) (w : WS) : Prop where
  run : PSs X st (tS X.K X.mg J w)
/-- a value on its way to a slot: data, or a thing just made that nobody owns yet -/
structure NeOk (K : PySem.W.Frag) (mg : Str → Option Value) (J : GJ) (pr : Hp) (env : En) (σ : L2.St) (F H : Hp) (v : V) (s : Sl) : Prop where
  ok : SlOk K mg J pr F H (some v) s
  al : s.isOwn = true → ∀ (i : Nat) (t : Sl), env[i]? = some t → t.isOwn = true → σ[i]? ≠ some (some v)
def tV (K : PySem.W.Frag) (mg : Str → Option Value) (J : GJ) (w : WV) : TE := fun σ H Q => ∃ (pr : Hp) (env : En) (F : Hp) (q : Sl → En → Prop), Rep K mg J pr env σ F H ∧ w env q ∧
  ∀ s env' v F' H', Rep K mg J pr env' σ F' H' → Same F F' → NeOk K mg J pr env' σ F' H' v s → q s env' → Q v H'
structure DV (X : Cx) (J : GJ) (e : Expr) (w : WV) : Prop where
  run : PE X e (tV X.K X.mg J w)

section
variable {K : PySem.W.Frag} {mg : Str → Option Value} {J : GJ} {pr F F' H H' : Hp} {env : En} {σ : L2.St} {v : V} {s : Sl}
theorem LeE.mono {E : DEnds} {Z : Ends} (h : LeE K mg J pr F E Z) (s : Same F F') : LeE K mg J pr F' E Z :=
  ⟨fun e σ F H R t => h.nx e σ F H R (s.trans t), fun d v e σ F H R t => h.rt d v e σ F H R (s.trans t), fun e σ F H R t => h.bk e σ F H R (s.trans t), fun e σ F H R t => h.ct e σ F H R (s.trans t)⟩
theorem Rep.put (R : Rep K mg J pr env σ F H) {i : Nat} (h : NeOk K mg J pr env σ F H v s) : Rep K mg J pr (env.set i s) (σ.set i (some v)) F H := by
  refine ⟨R.st, by rw [List.length_set, List.length_set]; exact R.len, fun j t o e1 e2 => ?_, fun j k t t' ne e1 e2 ht ht' => ?_⟩
  · by_cases hj : i = j
    · subst hj
      obtain ⟨hl, e1⟩ := List.getElem?_eq_some_iff.mp e1
      obtain ⟨hl', e2⟩ := List.getElem?_eq_some_iff.mp e2
      simp only [List.getElem_set_self] at e1 e2
      subst e1 e2
      exact h.ok
    · rw [List.getElem?_set_ne hj] at e1 e2
      exact R.sl j t o e1 e2
  · have here : ∀ {j : Nat} {t : Sl}, (env.set i s)[j]? = some t → i = j → (σ.set i (some v))[j]? = some (some v) ∧ t = s := fun {j t} ej hj => by
      subst hj
      obtain ⟨hl, ej⟩ := List.getElem?_eq_some_iff.mp ej
      simp only [List.getElem_set_self] at ej
      rw [List.length_set] at hl
      exact ⟨List.getElem?_set_self (by rw [← R.len]; exact hl), ej.symm⟩
    by_cases hj : i = j
    · have hk : i ≠ k := fun z => ne (hj.symm.trans z)
      obtain ⟨f1, rfl⟩ := here e1 hj
      rw [f1, List.getElem?_set_ne hk]
      rw [List.getElem?_set_ne hk] at e2
      exact fun z => h.al ht k t' e2 ht' z.symm
    · rw [List.getElem?_set_ne hj] at e1
      rw [List.getElem?_set_ne hj]
      by_cases hk : i = k
      · obtain ⟨g1, rfl⟩ := here e2 hk
        rw [g1]
        exact h.al ht' j t e1 ht
      · rw [List.getElem?_set_ne hk] at e2
        rw [List.getElem?_set_ne hk]
        exact R.dis j k t t' ne e1 e2 ht ht'
theorem NeOk.val {d : D} (h : Is K mg F v d) : NeOk K mg J pr env σ F H v (.val d) := ⟨⟨v, rfl, h⟩, fun z => by cases z⟩
/-- an owned object, its address and content -/
theorem SlOk.obj (h : SlOk K mg J pr F H (some v) s) (hs : s.isOwn = true) : ∃ p o, v = .ref p ∧ H p = some o ∧ Mine J pr F p ∧ NT o := by
  cases s with
  | no => cases hs
  | val d => cases hs
  | own xs =>
    obtain ⟨p, vs, e, h1, _, m⟩ := h
    cases e
    exact ⟨p, _, rfl, h1, m, nt_lst⟩
  | lat a0 xs =>
    obtain ⟨p, vs, e, h1, _, m⟩ := h
    cases e
    exact ⟨p, _, rfl, h1, m, nt_lst⟩
  | dk xs =>
    obtain ⟨p, vs, e, h1, _, m⟩ := h
    cases e
    exact ⟨p, _, rfl, h1, m, nt_dK⟩
  | dt xs =>
    obtain ⟨p, vs, e, h1, _, m⟩ := h
    cases e
    exact ⟨p, _, rfl, h1, m, nt_dT⟩
/-- the same thing later on: its object stands, nothing of it was laid down -/
theorem SlOk.later {pr' : Hp} (h : SlOk K mg J pr F H (some v) s) (ff : Same F F') (hh : ∀ p o, v = .ref p → H p = some o → H' p = some o) (m : ∀ p, v = .ref p → Mine J pr F p → Mine J pr' F' p) : SlOk K mg J pr' F' H' (some v) s := by
  cases s with
  | no => trivial
  | val d =>
    obtain ⟨u, e, i⟩ := h
    exact ⟨u, e, i.mono ff⟩
  | own xs =>
    obtain ⟨p, vs, e, h1, i, mm⟩ := h
    exact ⟨p, vs, e, hh p _ (Option.some.inj e) h1, i.mono ff, m p (Option.some.inj e) mm⟩
  | lat a0 xs =>
    obtain ⟨p, vs, e, h1, i, mm⟩ := h
    exact ⟨p, vs, e, hh p _ (Option.some.inj e) h1, i.mono ff, m p (Option.some.inj e) mm⟩
  | dk xs =>
    obtain ⟨p, vs, e, h1, i, mm⟩ := h
    exact ⟨p, vs, e, hh p _ (Option.some.inj e) h1, i.mono ff, m p (Option.some.inj e) mm⟩
  | dt xs =>
    obtain ⟨p, vs, e, h1, i, mm⟩ := h
    exact ⟨p, vs, e, hh p _ (Option.some.inj e) h1, i.mono ff, m p (Option.some.inj e) mm⟩
end

/-! ### values for slots -/
@[simp] def wVal (w : WE) : WV := fun env q => w env fun d e1 => q (.val d) e1
@[simp] def wNewL (w : WA) : WV := fun env q => w env fun as e1 => ∃ ds, reals as = some ds ∧ ds.length ≤ 1000 ∧ q (.own ds) e1
@[simp] def wNewK : WV := fun env q => q (.dk []) env
@[simp] def wNewT : WV := fun env q => q (.dt []) env
@[simp] def wNewLC (vs : List Nat) (wi : WI) (g : WG) (tt : WT) (te : WE) : WV := fun env q => wi env fun xs e1 => freeE e1 vs ∧ lcGo vs g tt te (fun acc e => q (.own acc) (backE e1 e vs)) xs [] (wipeE e1 vs)
section
variable {X : Cx} {J : GJ} {e : Expr} {es : List Expr} {we : WE} {w : WA} {pos : Pos}
theorem dv_of (h : DE X J e we) : DV X J e (wVal we) :=
  ⟨PE.imp h.x fun σ H Q ⟨pr, env, F, q, R, hw, k⟩ => ⟨pr, env, F, _, R, hw, fun d env' v F' H' R' s i hq => k _ env' v F' H' R' s (.val i) hq⟩⟩
theorem dv_lst (h : DA X J es w) : DV X J (.List es pos) (wNewL w) := by
  refine ⟨⟨fun pins s σ H Q I ⟨pr, env, F, q, R, hw, k⟩ => (pe_lst (h.run pr)).run pins s σ H Q I ⟨env, F, _, R, hw, fun as e1 vs F1 H1 R1 s1 i1 ⟨ds, h1, hl, hq⟩ => ?_⟩⟩⟩
  have ia := i1.real h1
  refine ⟨by rw [ia.length, sizeLine_eq]; omega, fun p n => ?_⟩
  obtain ⟨m, al⟩ := R1.apart n
  exact k (.own ds) e1 _ F1 _ (R1.stp (R1.st.made n)) s1 ⟨⟨p, vs, rfl, upd_same, ia, m⟩, fun _ => al⟩ hq
theorem dv_dK : DV X J (.Dict [] [] pos) wNewK := by
  refine ⟨PE.imp pe_dnewK fun σ H Q ⟨pr, env, F, q, R, hw, k⟩ => fun p n => ?_⟩
  obtain ⟨m, al⟩ := R.apart n
  exact k (.dk []) env _ F _ (R.stp (R.st.made n)) (Same.refl _) ⟨⟨p, [], rfl, upd_same, .nil, m⟩, fun _ => al⟩ hw
theorem dv_dT : DV X J (.Dict [] [] pos) wNewT := by
  refine ⟨PE.imp pe_dnewT fun σ H Q ⟨pr, env, F, q, R, hw, k⟩ => fun p n => ?_⟩
  obtain ⟨m, al⟩ := R.apart n
  exact k (.dt []) env _ F _ (R.stp (R.st.made n)) (Same.refl _) ⟨⟨p, [], rfl, upd_same, .nil, m⟩, fun _ => al⟩ hw
theorem new_own {K : PySem.W.Frag} {mg : Str → Option Value} {σ : L2.St} {pr F : Hp} {q : Sl → En → Prop} {Q : VK} (k : ∀ s env' v F' H', Rep K mg J pr env' σ F' H' → Same F F' → NeOk K mg J pr env' σ F' H' v s → q s env' → Q v H') : tNew K mg J σ pr F (fun acc e => q (.own acc) e) Q :=
  fun acc env' va D F' H' R s h m al ia hq => k (.own acc) env' _ F' H' R s ⟨⟨D, va, rfl, h, ia, m⟩, fun _ => al⟩ hq
end
section
variable {X : Cx} {J : GJ} {elt tg iter : Expr} {ifs : List Expr} {scope : Scope} {own : List (Str × Nat)} {pos : Pos} {wi : WI} {g : WG} {tt : WT} {te : WE}
theorem dv_lc (hc : X.calm = true) (hN : X.N.Nodup) (hi : DI X J tg iter wi) (ok : BlkOk X.N X.env.scope scope own) (hg : InBlk X scope fun Y => DG Y J tg (own.map (·.2)) g) (ht : InBlk X scope fun Y => DTs Y J ifs tt) (he : InBlk X scope fun Y => DE Y J elt te)
    (hs : ∀ x, foldedSetIterable iter X.env x = pure x := by intro _; rfl) : DV X J (.ListComp elt [⟨tg, iter, ifs, 0⟩] scope pos) (wNewLC (own.map (·.2)) wi g tt te) :=
  ⟨PE.imp (pe_lc hc hN hi.run ok (fun s H C cl fp => (hg s H C cl fp).run) (fun s H C cl fp => (ht s H C cl fp).x) (fun s H C cl fp => (he s H C cl fp).x) hs) fun σ H Q ⟨pr, env, F, q, R, hw, k⟩ => lc_of R hw (new_own k)⟩
end

/-! ### blocks, stores, returns -/
@[simp] def sNil : WS := fun env E => E.nx env
@[simp] def sSeq (w u : WS) : WS := fun env E => w env { E with nx := fun e => u e E }
@[simp] def sSet (i : Nat) (w : WV) : WS := fun env E => w env fun s e1 => E.nx (e1.set i s)
@[simp] def sRet (w : WE) : WS := fun env E => w env fun d e1 => E.rt d e1
@[simp] def sRetN : WS := fun env E => E.rt .non env
@[simp] def sIf (t : WT) (w u : WS) : WS := fun env E => t env fun b e1 => if b = true then w e1 E else u e1 E
@[simp] def sDrop (w : WE) : WS := fun env E => w env fun _ e1 => E.nx e1
@[simp] def sNever : WS := fun _ _ => False
@[simp] def sBreak : WS := fun env E => E.bk env
@[simp] def sCont : WS := fun env E => E.ct env
section
variable {X : Cx} {J : GJ} {st : Stmt} {rest : List Stmt} {e : Expr} {w u : WS} {we : WE} {wv : WV} {wt : WT} {pos : Pos}
theorem PS.imp {t t' : TS} (h : PS X st t) (i : ∀ Z σ H, t' Z σ H → t Z σ H) : PS X st t' := ⟨fun pins s σ H Z I q => h.run pins s σ H Z I (i _ _ _ q)⟩
theorem PSs.imp {t t' : TS} (h : PSs X rest t) (i : ∀ Z σ H, t' Z σ H → t Z σ H) : PSs X rest t' := ⟨fun pins s σ H Z I q => h.run pins s σ H Z I (i _ _ _ q)⟩
theorem dss_nil : DSs X J [] sNil := ⟨PSs.imp pss_nil fun Z σ H ⟨pr, env, F, E, R, hw, le⟩ => le.nx env σ F H R (Same.refl _) hw⟩
theorem dss_cons (h : DS X J st w) (h' : DSs X J rest u) : DSs X J (st :: rest) (sSeq w u) :=
  ⟨PSs.imp (pss_cons h.run h'.run) fun Z σ H ⟨pr, env, F, E, R, hw, le⟩ => ⟨pr, env, F, _, R, hw, ⟨fun e' σ' F' H' R' s hq => ⟨pr, e', F', E, R', hq, le.mono s⟩, le.rt, le.bk, le.ct⟩⟩⟩
theorem dss_one (h : DS X J st w) : DSs X J [st] w := ⟨pss_one h.run⟩
theorem ds_set {i : Nat} {x : Str} {p : Pos} (hN : X.N.Nodup) (hi : X.N[i]? = some x) (hx : Loc X.env.scope x) (h : DV X J e wv) (hs : swapsWith e (some (.Name x p)) pos.line X.env = pure false := by rfl)
    (hf : X.fn x = true ∨ X.env.scope.names.lookup x = some .local := by first | exact .inl rfl | exact .inr rfl | assumption) : DS X J (.Assign [.Name x p] e pos) (sSet i wv) :=
  ⟨PS.imp (ps_set hN hi hx h.run hs hf) fun Z σ H ⟨pr, env, F, E, R, hw, le⟩ => ⟨pr, env, F, _, R, hw, fun s e1 v F1 H1 R1 s1 n hq => le.nx _ _ F1 H1 (R1.put n) s1 hq⟩⟩
theorem ds_ret (h : DE X J e we) : DS X J (.Return (some e) pos) (sRet we) :=
  ⟨PS.imp (ps_ret h.x) fun Z σ H ⟨pr, env, F, E, R, hw, le⟩ => ⟨pr, env, F, _, R, hw, fun d e1 v F1 H1 R1 s1 i hq => le.rt d v e1 σ F1 H1 R1 s1 i hq⟩⟩
theorem ds_retN : DS X J (.Return none pos) sRetN := ⟨PS.imp ps_retN fun Z σ H ⟨pr, env, F, E, R, hw, le⟩ => le.rt .non .non env σ F H R (Same.refl _) .non hw⟩
theorem xT_of {c : Expr} {wt : WT} (h : DT X J c wt) : PT X c (xT X.K X.mg J wt) := ⟨fun pins s σ H Q I ⟨pr, q⟩ => (h.run pr).run pins s σ H Q I q⟩
theorem ds_if {c : Expr} {a b : List Stmt} (hc : DT X J c wt) (ha : DSs X J a w) (hb : DSs X J b u) : DS X J (.If c a b pos) (sIf wt w u) := by
  refine ⟨PS.imp (ps_if (xT_of hc) ha.run hb.run) fun Z σ H ⟨pr, env, F, E, R, hw, le⟩ => ⟨pr, env, F, _, R, hw, fun b e1 F1 H1 R1 s1 hq => ?_⟩⟩
  cases b with
  | true => exact ⟨pr, e1, F1, E, R1, hq, le.mono s1⟩
  | false => exact ⟨pr, e1, F1, E, R1, hq, le.mono s1⟩
theorem ds_expr (h : DE X J e we) (hs : swapsWith e none pos.line X.env = pure false := by rfl) : DS X J (.Expr e pos) (sDrop we) :=
  ⟨PS.imp (ps_expr h.x hs) fun Z σ H ⟨pr, env, F, E, R, hw, le⟩ => ⟨pr, env, F, _, R, hw, fun d e1 v F1 H1 R1 s1 i hq => le.nx e1 σ F1 H1 R1 s1 hq⟩⟩
theorem ds_never : DS X J st sNever := ⟨PS.imp ps_never fun Z σ H ⟨pr, env, F, E, R, hw, le⟩ => hw.elim⟩
theorem dss_never : DSs X J rest sNever := ⟨PSs.imp pss_never fun Z σ H ⟨pr, env, F, E, R, hw, le⟩ => hw.elim⟩
theorem ds_break : DS X J (.Break pos) sBreak := ⟨PS.imp ps_break fun Z σ H ⟨pr, env, F, E, R, hw, le⟩ => le.bk env σ F H R (Same.refl _) hw⟩
theorem ds_cont : DS X J (.Continue pos) sCont := ⟨PS.imp ps_continue fun Z σ H ⟨pr, env, F, E, R, hw, le⟩ => le.ct env σ F H R (Same.refl _) hw⟩
end
section
variable {X : Cx} {J : GJ} {elt tg iter tg1 iter1 : Expr} {ifs ifs1 : List Expr} {scope : Scope} {own : List (Str × Nat)} {vs1 : List Nat} {pos spos py : Pos} {wi wi1 : WI} {g g1 : WG} {tt tt1 : WT} {te : WE} {i : Nat} {y : Str}
theorem ds_setLc (hc : X.calm = true) (hN : X.N.Nodup) (hy : X.N[i]? = some y) (hyl : X.env.scope.names.lookup y = some .local) (hsw : swapsWith (.ListComp elt [⟨tg, iter, ifs, 0⟩] scope pos) (some (.Name y py)) spos.line X.env = pure true)
    (hi : DI X J tg iter wi) (ok : BlkOk X.N X.env.scope scope own) (hg : InBlk X scope fun Y => DG Y J tg (own.map (·.2)) g) (ht : InBlk X scope fun Y => DTs Y J ifs tt) (he : InBlk X scope fun Y => DE Y J elt te)
    (hs : ∀ x, foldedSetIterable iter X.env x = pure x := by intro _; rfl) : DS X J (.Assign [.Name y py] (.ListComp elt [⟨tg, iter, ifs, 0⟩] scope pos) spos) (sSet i (wVal (wLC (own.map (·.2)) wi g tt te))) :=
  ⟨PS.imp (ps_setLc hc hN hy hyl hsw hi.run ok (fun s H C cl fp => (hg s H C cl fp).run) (fun s H C cl fp => (ht s H C cl fp).x) (fun s H C cl fp => (he s H C cl fp).x) hs) fun Z σ H ⟨pr, env, F, E, R, hw, le⟩ =>
    lc_of R hw (new_frz (q := fun d e1 => E.nx (e1.set i (.val d))) fun d e1 v F1 H1 R1 s1 iv hq => le.nx _ _ F1 H1 (R1.store iv) s1 hq)⟩
theorem ds_setLcO (hc : X.calm = true) (hN : X.N.Nodup) (hy : X.N[i]? = some y) (hyl : X.env.scope.names.lookup y = some .local) (hsw : swapsWith (.ListComp elt [⟨tg, iter, ifs, 0⟩] scope pos) (some (.Name y py)) spos.line X.env = pure true)
    (hi : DI X J tg iter wi) (ok : BlkOk X.N X.env.scope scope own) (hg : InBlk X scope fun Y => DG Y J tg (own.map (·.2)) g) (ht : InBlk X scope fun Y => DTs Y J ifs tt) (he : InBlk X scope fun Y => DE Y J elt te)
    (hs : ∀ x, foldedSetIterable iter X.env x = pure x := by intro _; rfl) : DS X J (.Assign [.Name y py] (.ListComp elt [⟨tg, iter, ifs, 0⟩] scope pos) spos) (sSet i (wNewLC (own.map (·.2)) wi g tt te)) :=
  ⟨PS.imp (ps_setLc hc hN hy hyl hsw hi.run ok (fun s H C cl fp => (hg s H C cl fp).run) (fun s H C cl fp => (ht s H C cl fp).x) (fun s H C cl fp => (he s H C cl fp).x) hs) fun Z σ H ⟨pr, env, F, E, R, hw, le⟩ =>
    lc_of (fin := fun acc e1 => E.nx (e1.set i (.own acc))) R hw (new_own (q := fun s e1 => E.nx (e1.set i s)) fun s e1 v F1 H1 R1 s1 n hq => le.nx _ _ F1 H1 (R1.put n) s1 hq)⟩
theorem ds_setLc2 (hc : X.calm = true) (hN : X.N.Nodup) (hy : X.N[i]? = some y) (hyl : X.env.scope.names.lookup y = some .local) (hsw : swapsWith (.ListComp elt [⟨tg, iter, ifs, 0⟩, ⟨tg1, iter1, ifs1, 0⟩] scope pos) (some (.Name y py)) spos.line X.env = pure true)
    (hi : DI X J tg iter wi) (ok : BlkOk X.N X.env.scope scope own) (hv : ∀ i ∈ vs1, i ∈ own.map (·.2)) (hg : InBlk X scope fun Y => DG Y J tg (own.map (·.2)) g) (ht : InBlk X scope fun Y => DTs Y J ifs tt)
    (hi1 : InBlk X scope fun Y => DI Y J tg1 iter1 wi1) (hg1 : InBlk X scope fun Y => DG Y J tg1 vs1 g1) (ht1 : InBlk X scope fun Y => DTs Y J ifs1 tt1) (he : InBlk X scope fun Y => DE Y J elt te)
    (hs : ∀ x, foldedSetIterable iter X.env x = pure x := by intro _; rfl) (hs1 : ∀ env x, foldedSetIterable iter1 env x = pure x := by intro _ _; rfl) :
    DS X J (.Assign [.Name y py] (.ListComp elt [⟨tg, iter, ifs, 0⟩, ⟨tg1, iter1, ifs1, 0⟩] scope pos) spos) (sSet i (wVal (wLC2 (own.map (·.2)) vs1 wi g tt wi1 g1 tt1 te))) :=
  ⟨PS.imp (ps_setLc2 hc hN hy hyl hsw hi.run ok hv (fun s H C cl fp => (hg s H C cl fp).run) (fun s H C cl fp => (ht s H C cl fp).x) (fun s H C cl fp => (hi1 s H C cl fp).run) (fun s H C cl fp => (hg1 s H C cl fp).run) (fun s H C cl fp => (ht1 s H C cl fp).x) (fun s H C cl fp => (he s H C cl fp).x) hs hs1)
    fun Z σ H ⟨pr, env, F, E, R, hw, le⟩ => lc2_of hv R hw (new_frz (q := fun d e1 => E.nx (e1.set i (.val d))) fun d e1 v F1 H1 R1 s1 iv hq => le.nx _ _ F1 H1 (R1.store iv) s1 hq)⟩
end

/-! ### a, b = x, y -/
@[simp] def sPar (i j : Nat) (wa wb : WV) : WS := fun env E => wa env fun s e1 => wb e1 fun t e2 => E.nx ((e2.set i s).set j t)
section
variable {X : Cx} {J : GJ}
/-- two values made one behind the other, then stored -/
theorem par_of {i j : Nat} {wa wb : WV} {Z : L2.St → Hp → Prop} {σ : L2.St} {H : Hp} {pr : Hp} {env : En} {F : Hp} {nx : En → Prop} (hij : i ≠ j) (R : Rep X.K X.mg J pr env σ F H) (hw : wa env fun s e1 => wb e1 fun t e2 => nx ((e2.set i s).set j t))
    (le : ∀ env' σ' F' H', Rep X.K X.mg J pr env' σ' F' H' → Same F F' → nx env' → Z σ' H') :
    tV X.K X.mg J wa σ H fun x H1 => tV X.K X.mg J wb σ H1 fun y H2 => ∀ H3, (∀ b o, H2 b = some o → H3 b = some o) → (∀ b, J.mt b → H3 b = H2 b) → Z ((σ.set i (some x)).set j (some y)) H3 := by
  refine ⟨pr, env, F, _, R, hw, fun s e1 x F1 H1 R1 s1 n1 hq => ?_⟩
  -- while the second is made, the first is somebody's
  have fin : ∀ (t : Sl) (e2 : En) (y : V) (F2 H2 : Hp), Rep X.K X.mg J pr e2 σ F2 H2 → Same F F2 → NeOk X.K X.mg J pr e2 σ F2 H2 x s → NeOk X.K X.mg J pr (e2.set i s) (σ.set i (some x)) F2 H2 y t → nx ((e2.set i s).set j t) →
      ∀ H3, (∀ b o, H2 b = some o → H3 b = some o) → (∀ b, J.mt b → H3 b = H2 b) → Z ((σ.set i (some x)).set j (some y)) H3 := fun t e2 y F2 H2 R2 s2 nx' ny hq2 H3 up mt => by
    have R3 := (R2.put (i := i) nx').put (i := j) ny
    have st3 : Stp J pr F2 H2 F2 H3 := ⟨⟨fun b o e => up b o (R2.st.sub b o e), fun b o e => ⟨up b o (R2.st.prk b o e).1, (R2.st.prk b o e).2⟩, J.stay _ _ _ _ R2.st.inv (Same.refl _) mt (fun b φ h => up b _ h), R2.st.mtF, R2.st.nt⟩, Same.refl _, fun b o _ _ e => up b o e, fun b o _ e f => f⟩
    exact le _ _ F2 H3 (R3.stp st3) s2 hq2
  by_cases hs : s.isOwn = true
  · obtain ⟨p, o, rfl, hp, m, nto⟩ := n1.ok.obj hs
    refine ⟨_, e1, F1, _, R1.more hp m nto (fun k t e ht => n1.al hs k t e ht), hq, fun t e2 y F2 H2 R2 s2 n2 hq2 => ?_⟩
    obtain ⟨R3, hp2, m2, al2⟩ := R2.less m.q
    have nx' : NeOk X.K X.mg J pr e2 σ F2 H2 (.ref p) s := by
      refine ⟨n1.ok.later s2 (fun p' o' e h => ?_) (fun p' e _ => ?_), fun _ => al2⟩
      · cases e
        rw [hp] at h
        cases h
        exact hp2
      · cases e
        exact m2
    refine fin t e2 y F2 H2 R3 (s1.trans s2) nx' ⟨n2.ok.later (Same.refl _) (fun _ _ _ h => h) (fun p' e mm => ⟨mm.f, ?_, mm.m⟩), fun ht k u e hu z => ?_⟩ hq2
    · have q := mm.q
      have ne : p' ≠ p := fun z => by
        subst z
        rw [upd_same] at q
        cases q
      rwa [upd_ne ne] at q
    · by_cases hk : i = k
      · subst hk
        obtain ⟨hl, e⟩ := List.getElem?_eq_some_iff.mp e
        rw [List.length_set] at hl
        rw [List.getElem?_set_self (by rw [← R2.len]; exact hl)] at z
        have z := Option.some.inj (Option.some.inj z)
        obtain ⟨p', o', e', h', mm, _⟩ := n2.ok.obj ht
        rw [e'] at z
        cases z
        have q := mm.q
        rw [upd_same] at q
        cases q
      · rw [List.getElem?_set_ne hk] at e z
        exact n2.al ht k u e hu z
  · refine ⟨pr, e1, F1, _, R1, hq, fun t e2 y F2 H2 R2 s2 n2 hq2 => ?_⟩
    have nx' : NeOk X.K X.mg J pr e2 σ F2 H2 x s := by
      refine ⟨?_, fun z => absurd z hs⟩
      have h := n1.ok
      cases s with
      | no => trivial
      | val d =>
        obtain ⟨u, e, iu⟩ := h
        exact ⟨u, e, iu.mono s2⟩
      | own _ => exact absurd rfl hs
      | lat _ _ => exact absurd rfl hs
      | dk _ => exact absurd rfl hs
      | dt _ => exact absurd rfl hs
    refine fin t e2 y F2 H2 R2 (s1.trans s2) nx' ⟨n2.ok, fun ht k u e hu z => ?_⟩ hq2
    by_cases hk : i = k
    · subst hk
      obtain ⟨hl, e⟩ := List.getElem?_eq_some_iff.mp e
      simp only [List.getElem_set_self] at e
      subst e
      exact hs hu
    · rw [List.getElem?_set_ne hk] at e z
      exact n2.al ht k u e hu z
theorem ds_par {i j : Nat} {x y : Str} {a b : Expr} {px py pt pos : Pos} {kt k2 pt2} {wa wb : WV} (hc : X.calm = true) (hN : X.N.Nodup) (hi : X.N[i]? = some x) (hj : X.N[j]? = some y) (hij : i ≠ j)
    (hx : X.env.scope.names.lookup x = some .local) (hy : X.env.scope.names.lookup y = some .local) (ha : DV X J a wa) (hb : DV X J b wb)
    (hw : swappedStores [.Tuple [.Name x px, .Name y py] kt pt] (.Tuple [a, b] k2 pt2) X.env = pure (some [x, y]))
    (hs : swapsWithSole [.Tuple [.Name x px, .Name y py] kt pt] (.Tuple [a, b] k2 pt2) pos.line X.env = pure false := by rfl)
    (h1 : starEach (a :: [b]) X.env = (false, eval a X.env) :: starEach [b] X.env := by rfl) (h2 : starEach (b :: []) X.env = (false, eval b X.env) :: starEach [] X.env := by rfl) :
    DS X J (.Assign [.Tuple [.Name x px, .Name y py] kt pt] (.Tuple [a, b] k2 pt2) pos) (sPar i j wa wb) := by
  refine ⟨PS.imp (ps_par hc hN hi hj hij hx hy (pa_cons ha.run (pa_cons hb.run pa_nil h2) h1) hw hs) fun Z σ H ⟨pr, env, F, E, R, hw, le⟩ => ?_⟩
  have h := par_of (X := X) (Z := Z.nx) hij R hw le.nx
  obtain ⟨pr1, en1, F1, q1, R1, w1, k1⟩ := h
  refine ⟨pr1, en1, F1, q1, R1, w1, fun s e1 v F' H' R' s' n hq => ?_⟩
  obtain ⟨pr2, en2, F2, q2, R2, w2, k2⟩ := k1 s e1 v F' H' R' s' n hq
  refine ⟨pr2, en2, F2, q2, R2, w2, fun s e1 u F'' H'' R'' s'' n' hq' => ?_⟩
  exact ⟨v, u, rfl, k2 s e1 u F'' H'' R'' s'' n' hq' H'' (fun _ _ h => h) fun _ _ => rfl⟩
/-- the same where a tuple is made on the way -/
theorem ds_parT {i j : Nat} {x y : Str} {a b : Expr} {px py pt pos : Pos} {kt k2 pt2} {wa wb : WV} (hc : X.calm = true) (hN : X.N.Nodup) (hij : i ≠ j) (gx : PG X (.Name x px) (L2.gName i)) (gy : PG X (.Name y py) (L2.gName j)) (ha : DV X J a wa) (hb : DV X J b wb)
    (hs : swapsWithSole [.Tuple [.Name x px, .Name y py] kt pt] (.Tuple [a, b] k2 pt2) pos.line X.env = pure false := by rfl)
    (hw : swappedStores [.Tuple [.Name x px, .Name y py] kt pt] (.Tuple [a, b] k2 pt2) X.env = pure none := by rfl)
    (h0 : (assignEach [.Tuple [.Name x px, .Name y py] kt pt] X.env).map (·.2) = [assign (.Tuple [.Name x px, .Name y py] kt pt) X.env] := by rfl)
    (h1 : starEach (a :: [b]) X.env = (false, eval a X.env) :: starEach [b] X.env := by rfl) (h2 : starEach (b :: []) X.env = (false, eval b X.env) :: starEach [] X.env := by rfl)
    (hn : (assignEach [.Name x px, .Name y py] X.env).length = 2 := by rfl) (hst : (assignEach [.Name x px, .Name y py] X.env).findIdx? (·.1) = none := by rfl)
    (h3 : (assignEach (.Name x px :: [.Name y py]) X.env).map (·.2) = assign (.Name x px) X.env :: (assignEach [.Name y py] X.env).map (·.2) := by rfl) (h4 : (assignEach (.Name y py :: []) X.env).map (·.2) = assign (.Name y py) X.env :: (assignEach [] X.env).map (·.2) := by rfl) :
    DS X J (.Assign [.Tuple [.Name x px, .Name y py] kt pt] (.Tuple [a, b] k2 pt2) pos) (sPar i j wa wb) := by
  refine ⟨PS.imp (ps_asg (pe_tup (pa_cons ha.run (pa_cons hb.run pa_nil h2) h1)) (pg_tup hc (L2.pgs_cons gx (L2.pgs_cons gy L2.pgs_nil h4) h3) hn hst) hs hw h0) fun Z σ H ⟨pr, env, F, E, R, hw, le⟩ => ?_⟩
  have h := par_of (X := X) (Z := Z.nx) hij R hw le.nx
  obtain ⟨pr1, en1, F1, q1, R1, w1, k1⟩ := h
  refine ⟨pr1, en1, F1, q1, R1, w1, fun s e1 v F' H' R' s' n hq => ?_⟩
  obtain ⟨pr2, en2, F2, q2, R2, w2, k2⟩ := k1 s e1 v F' H' R' s' n hq
  refine ⟨pr2, en2, F2, q2, R2, w2, fun s e1 u F'' H'' R'' s'' n' hq' => ?_⟩
  refine ⟨by rw [sizeLine_eq]; show 2 ≤ 16777216; decide, fun t nt => ?_⟩
  refine ⟨t, [v, u], rfl, SqT.of upd_same, rfl, v, [u], rfl, u, [], rfl, rfl, ?_⟩
  exact k2 s e1 u F'' H'' R'' s'' n' hq' _ (fun b o h => by rw [upd_ne (ne_of_none h nt)]; exact h) fun b mt => upd_ne fun z => J.at_ F'' H'' b R''.st.inv mt (z ▸ nt)
end

/-! ### loops -/
def forGo (g : WG) (body : WS) (E : DEnds) : List D → En → Prop
  | [], env => E.nx env
  | x :: xs, env => g x env fun e2 => body e2 { E with nx := forGo g body E xs, ct := forGo g body E xs, bk := E.nx }
@[simp] def sFor (wi : WI) (g : WG) (body : WS) : WS := fun env E => wi env fun xs e1 => forGo g body E xs e1
def sWhile (c : WT) (body : WS) : WS := fun env E => ∃ P : Nat → En → Prop, (∃ m, P m env) ∧ ∀ m e, P m e → c e fun b e1 => if b = true then body e1 { E with nx := fun e2 => ∃ m', m' < m ∧ P m' e2, ct := fun e2 => ∃ m', m' < m ∧ P m' e2, bk := E.nx } else E.nx e1
section
variable {X : Cx} {J : GJ} {tg iter c : Expr} {body : List Stmt} {wi : WI} {g : WG} {w : WS} {wt : WT} {pos : Pos} {vs : List Nat}
theorem ds_for (hp : PassesOwn (model X.prog X.w) X.A X.env X.xe) (hc : X.calm = true) (hi : DI X J tg iter wi) (hg : DG X J tg vs g) (hb : DSs X J body w) (hs : ∀ x, foldedSetIterable iter X.env x = pure x := by intro _; rfl) : DS X J (.For tg iter body [] pos) (sFor wi g w) := by
  refine ⟨PS.imp (ps_for hp hc hi.run hg.run hb.run hs) fun Z σ H ⟨pr, env, F, E, R, hw, le⟩ => ⟨pr, env, F, _, R, hw, fun It xs e1 F1 H1 R1 s1 itok hgo => ?_⟩⟩
  refine ⟨fun i m σ' H' => ∃ e F', Rep X.K X.mg J pr e σ' F' H' ∧ Same F1 F' ∧ m = xs.length - i ∧ i ≤ xs.length ∧ forGo g w E (xs.drop i) e, ⟨xs.length, e1, F1, R1, Same.refl _, by omega, Nat.zero_le _, hgo⟩, ?_⟩
  rintro i m σ' H' ⟨e, F', R', s', rfl, hi, hg'⟩
  by_cases hlt : i < xs.length
  · refine .inr ⟨(itok pr).go i F' H' s' R'.st.sub hlt, fun σ2 H2 => ∃ m', m' < xs.length - i ∧ ∃ e F', Rep X.K X.mg J pr e σ2 F' H2 ∧ Same F1 F' ∧ m' = xs.length - (i + 1) ∧ i + 1 ≤ xs.length ∧ forGo g w E (xs.drop (i + 1)) e, fun _ _ h => h, fun x H2 hy => ?_⟩
    obtain ⟨F2, d, hd, t, ix⟩ := (itok pr).yld i F' H' x H2 s' R'.st hlt hy
    have hdr : xs.drop i = d :: xs.drop (i + 1) := by
      obtain ⟨hl, e⟩ := List.getElem?_eq_some_iff.mp hd
      rw [List.drop_eq_getElem_cons hl, e]
    rw [hdr] at hg'
    refine ⟨pr, e, F2, d, _, R'.stp t, ix, hg', fun e3 σ3 F3 H3 R3 s3 _ _ hq => ?_⟩
    have sF : Same F1 F3 := (s'.trans t.ff).trans s3
    have le' := le.mono (s1.trans sF)
    exact ⟨pr, e3, F3, _, R3, hq, ⟨fun e4 σ4 F4 H4 R4 s4 hq4 => ⟨xs.length - (i + 1), by omega, e4, F4, R4, sF.trans s4, rfl, by omega, hq4⟩, le'.rt, fun e4 σ4 F4 H4 R4 s4 hq4 => le'.nx e4 σ4 F4 H4 R4 s4 hq4,
      fun e4 σ4 F4 H4 R4 s4 hq4 => ⟨xs.length - (i + 1), by omega, e4, F4, R4, sF.trans s4, rfl, by omega, hq4⟩⟩⟩
  · have e0 : i = xs.length := by omega
    subst e0
    rw [List.drop_length] at hg'
    exact .inl ⟨(itok pr).stop _ F' H' s' R'.st.sub (Nat.le_refl _), le.nx e σ' F' H' R' (s1.trans s') hg'⟩
theorem ds_while (hp : PassesOwn (model X.prog X.w) X.A X.env X.xe) (hc : DT X J c wt) (hb : DSs X J body w) : DS X J (.While c body [] pos) (sWhile wt w) := by
  refine ⟨PS.imp (ps_while hp (xT_of hc) hb.run) fun Z σ H ⟨pr, env, F, E, R, ⟨P, ⟨m0, p0⟩, turn⟩, le⟩ => ?_⟩
  refine ⟨fun m σ' H' => ∃ e F', Rep X.K X.mg J pr e σ' F' H' ∧ Same F F' ∧ P m e, ⟨m0, env, F, R, Same.refl _, p0⟩, ?_⟩
  rintro m σ' H' ⟨e, F', R', s', hP⟩
  refine ⟨pr, e, F', _, R', turn m e hP, fun b e1 F1 H1 R1 s1 hq => ?_⟩
  have sF := s'.trans s1
  cases b with
  | true =>
    refine ⟨fun σ2 H2 => ∃ m', m' < m ∧ ∃ e F', Rep X.K X.mg J pr e σ2 F' H2 ∧ Same F F' ∧ P m' e, fun _ _ h => h, ?_⟩
    have le' := le.mono sF
    exact ⟨pr, e1, F1, _, R1, hq, ⟨fun e4 σ4 F4 H4 R4 s4 ⟨m', hm, hq4⟩ => ⟨m', hm, e4, F4, R4, sF.trans s4, hq4⟩, le'.rt, fun e4 σ4 F4 H4 R4 s4 hq4 => le'.nx e4 σ4 F4 H4 R4 s4 hq4, fun e4 σ4 F4 H4 R4 s4 ⟨m', hm, hq4⟩ => ⟨m', hm, e4, F4, R4, sF.trans s4, hq4⟩⟩⟩
  | false => exact le.nx e1 σ' F1 H1 R1 sF hq
end

/-! ### a def's promise -/
@[simp] def startE (N : List Str) (ds : List D) : En := ds.map Sl.val ++ List.replicate (N.length - ds.length) .no
theorem start_rep {K : PySem.W.Frag} {mg : Str → Option Value} {J : GJ} {pr F H : Hp} {N : List Str} {vs : List V} {ds : List D} (st : St8 J pr F H) (ia : IsA K mg F vs ds) : Rep K mg J pr (startE N ds) (L2.start N vs) F H := by
  refine ⟨st, ?_, fun i s o e1 e2 => ?_, fun i j s t ne e1 e2 hs ht => ?_⟩
  · unfold startE L2.start
    simp [ia.length]
  · unfold startE at e1
    unfold L2.start at e2
    by_cases hi : i < ds.length
    · rw [List.getElem?_append_left (by simpa using hi), List.getElem?_map, List.getElem?_eq_getElem hi] at e1
      cases e1
      obtain ⟨v, hv, iv⟩ := ia.get (List.getElem?_eq_getElem hi)
      rw [List.getElem?_append_left (by simpa [ia.length] using hi), List.getElem?_map, hv] at e2
      cases e2
      exact ⟨v, rfl, iv⟩
    · rw [List.getElem?_append_right (by simpa using Nat.le_of_not_lt hi), List.getElem?_replicate] at e1
      split at e1
      · cases e1
        trivial
      · cases e1
  · exfalso
    unfold startE at e1
    by_cases hi : i < ds.length
    · rw [List.getElem?_append_left (by simpa using hi), List.getElem?_map, List.getElem?_eq_getElem hi] at e1
      cases e1
      cases hs
    · rw [List.getElem?_append_right (by simpa using Nat.le_of_not_lt hi), List.getElem?_replicate] at e1
      split at e1
      · cases e1
        cases hs
      · cases e1
section
variable {g : Bool} {P : Program} {w : World} {K : PySem.W.Frag} {mg : Str → Option Value} {base : Heap}
theorem fn_Dk {k : Nat} {f : Addr} {x qual : Str} {st : Stmt} {N ps : List Str} {S : Spec} {wb : GJ → WS} {oc kV doc pm cd ct : Value} {od an : Option Addr} {osl : Array (Option Value)} (lk : K.lookup f = some ⟨oc, od, .func (PySem.W.fnOf x qual (defArgs st) (defBody st) (defScope st) .none kV doc pm an cd ct), osl⟩) (hcd : PySem.W.codeIn K cd qual = true) (Sc : FnScope N ps (defScope st))
    (body : ∀ (J : GJ) (A : Around) (outer : List Env) (s : Shared) (H : Hp) (E : XK), Rm g k (A.deeper (envOfC qual (defScope st) s.heap.objs.size f cd)) → (∃ ds q, S J ds q) → DSs (cxOf L2.CX0 P w K mg base N qual (defScope st) f cd A outer s H E).nox J (defBody st) (wb J))
    (ver : ∀ (J : GJ) (ds : List D) (q : D → Prop), ds.length = ps.length → S J ds q → wb J (startE N ds) { nx := fun _ => q .non, rt := fun d _ => q d }) : FnG g P w K mg base L2.CX0 (k + 1) f (PySem.W.fnOf x qual (defArgs st) (defBody st) (defScope st) .none kV doc pm an cd ct) ps (spD K mg S ps.length) := by
  refine fnG_lk lk hcd Sc (fun vs H Q E h => h.1) fun A outer s H vs Q E hr ⟨hl, J, pr, F, ds, q, st8, ia, hS, k⟩ => ?_
  have b := body J A outer s H E hr ⟨ds, q, hS⟩
  refine ⟨_, b.run.nox, ?_⟩
  have hv := ver J ds q (by rw [← ia.length]; exact hl) hS
  let pr' : Hp := fun b => open Classical in if F b = none ∧ ¬ J.mt b ∧ ∀ o, H b = some o → NT o then H b else none
  have pr1 : ∀ b o, F b = none → ¬ J.mt b → NT o → H b = some o → pr' b = some o := fun b o h1 h2 h3 h4 => (if_pos ⟨h1, h2, fun o' e => by rw [h4] at e; cases e; exact h3⟩).trans h4
  have pr2 : ∀ b o, pr' b = some o → F b = none ∧ ¬ J.mt b ∧ H b = some o ∧ NT o := fun b o e => by
    have e : (open Classical in if F b = none ∧ ¬ J.mt b ∧ ∀ o, H b = some o → NT o then H b else none) = some o := e
    split at e
    · rename_i h
      exact ⟨h.1, h.2.1, e, h.2.2 o e⟩
    · cases e
  have st' : St8 J pr' F H := ⟨st8.sub, fun b o e => ⟨(pr2 b o e).2.2.1, (pr2 b o e).1⟩, st8.inv, fun b m => ⟨(st8.mtF b m).1, if_neg fun z => z.2.1 m⟩, fun b o e => e.elim (fun e => st8.nt b o (.inl e)) fun e => (pr2 b o e).2.2.2⟩
  have out : ∀ F' H', St8 J pr' F' H' → Same F F' → Stp J pr F H F' H' := fun F' H' s' ff => by
    have keep : ∀ b o, ¬ J.mt b → NT o → H b = some o → H' b = some o := fun b o m t e => by
      cases hF : F b with
      | none => exact (s'.prk b o (pr1 b o hF m t e)).1
      | some o' =>
        have e1 := st8.sub b o' hF
        rw [e] at e1
        cases e1
        exact s'.sub b o (ff b o hF)
    refine ⟨⟨s'.sub, fun b o e => ?_, s'.inv, fun b m => ⟨(s'.mtF b m).1, (st8.mtF b m).2⟩, fun b o e => e.elim (fun e => s'.nt b o (.inl e)) fun e => st8.nt b o (.inr e)⟩, ff, keep, fun b o t e f => ?_⟩
    · obtain ⟨h1, h2⟩ := st8.prk b o e
      have m : ¬ J.mt b := fun m => by
        rw [(st8.mtF b m).2] at e
        cases e
      exact s'.prk b o (pr1 b o h2 m (st8.nt b o (.inr e)) h1)
    · by_cases m : J.mt b
      · exact (s'.mtF b m).1
      · exact (s'.prk b o (pr1 b o f m t e)).2
  refine ⟨pr', startE N ds, F, _, start_rep st' ia, hv, ⟨fun e σ F' H' R s hq => k .non .non F' H' (out F' H' R.st s) .non hq, fun d v e σ F' H' R s i hq => k d v F' H' (out F' H' R.st s) i hq, fun _ _ _ _ _ _ h => h.elim, fun _ _ _ _ _ _ h => h.elim⟩⟩
/-- THE RULE for a def by data: its body's walk, and that its walk by data keeps the promise -/
theorem fn_D {k : Nat} {f : Addr} {x qual : Str} {st : Stmt} {fd : FuncData} {N ps : List Str} {S : Spec} {wb : GJ → WS} (Fu : L2.Fun K x qual st f fd) (Sc : FnScope N ps (defScope st))
    (body : ∀ (J : GJ) (cd : Value) (A : Around) (outer : List Env) (s : Shared) (H : Hp) (E : XK), Rm g k (A.deeper (envOfC qual (defScope st) s.heap.objs.size f cd)) → DSs (cxOf L2.CX0 P w K mg base N qual (defScope st) f cd A outer s H E).nox J (defBody st) (wb J))
    (ver : ∀ (J : GJ) (ds : List D) (q : D → Prop), ds.length = ps.length → S J ds q → wb J (startE N ds) { nx := fun _ => q .non, rt := fun d _ => q d }) : FnG g P w K mg base L2.CX0 (k + 1) f fd ps (spD K mg S ps.length) := by
  obtain ⟨oc, od, kV, doc, pm, an, cd, ct, osl, rfl, lk, hcd⟩ := Fu.ex
  exact fn_Dk lk hcd Sc (fun J A outer s H E hr _ => body J cd A outer s H E hr) ver
theorem cal_D {k : Nat} {f : Addr} {x : Str} {st : Stmt} {fd : FuncData} {N ps : List Str} {S : Spec} {wb : GJ → WS} (Fu : L2.Fun K x x st f fd) (Sc : FnScope N ps (defScope st)) (hm : mg x = some (.ref f)) (hb : Binds K fd ps [])
    (body : ∀ (J : GJ) (cd : Value) (A : Around) (outer : List Env) (s : Shared) (H : Hp) (E : XK), Rm g k (A.deeper (envOfC x (defScope st) s.heap.objs.size f cd)) → DSs (cxOf L2.CX0 P w K mg base N x (defScope st) f cd A outer s H E).nox J (defBody st) (wb J))
    (ver : ∀ (J : GJ) (ds : List D) (q : D → Prop), ds.length = ps.length → S J ds q → wb J (startE N ds) { nx := fun _ => q .non, rt := fun d _ => q d }) : CalG g P w K mg base (k + 1) x S ps.length :=
  ⟨f, fd, ps, fn_D Fu Sc body ver, hm, Fu.kp, hb⟩
end
end DL

/-! DL8: own lists and dicts that change, sets' lengths, name op= value. -/
namespace DL
open PySem PySem.Spec PyProof.Rows L2

/-! ### own lists -/
@[simp] def wApp (i : Nat) (we : WE) : WE := fun env q => (∃ xs, env[i]? = some (.own xs)) ∧ we env fun d e1 => ∃ xs, e1[i]? = some (.own xs) ∧ xs.length < sizeLine ∧ q .non (e1.set i (.own (xs ++ [d])))
@[simp] def wExt (i : Nat) (we : WE) : WE := fun env q => (∃ xs, env[i]? = some (.own xs)) ∧ we env fun d e1 => ∃ xs ys, e1[i]? = some (.own xs) ∧ d = .lst ys ∧ xs.length + ys.length ≤ sizeLine ∧ q .non (e1.set i (.own (xs ++ ys)))
@[simp] def wPopAt (i : Nat) (we : WE) : WE := fun env q => (∃ xs, env[i]? = some (.own xs)) ∧ we env fun d e1 => ∃ xs j k y, e1[i]? = some (.own xs) ∧ d = .int j ∧ -(2 ^ 63) ≤ j ∧ j < 2 ^ 63 ∧ seqIndex? j xs.length = some k ∧ xs[k]? = some y ∧ q y (e1.set i (.own (xs.eraseIdx k)))
@[simp] def wPop (i : Nat) : WE := fun env q => ∃ xs y, env[i]? = some (.own xs) ∧ xs[xs.length - 1]? = some y ∧ q y (env.set i (.own xs.dropLast))
theorem IsA.dropLast {K : PySem.W.Frag} {mg : Str → Option Value} {F : Hp} {vs : List V} {xs : List D} (h : IsA K mg F vs xs) : IsA K mg F vs.dropLast xs.dropLast := by
  rw [List.dropLast_eq_take, List.dropLast_eq_take, h.length]
  exact h.take _
section
variable {X : Cx} {J : GJ} {o e : Expr} {we : WE} {apos cpos : Pos} {i : Nat}
theorem own_at {K : PySem.W.Frag} {mg : Str → Option Value} {pr F H : Hp} {env : En} {σ : L2.St} {xs : List D} (R : Rep K mg J pr env σ F H) (h : env[i]? = some (.own xs)) :
    ∃ p vs, σ[i]? = some (some (V.ref p)) ∧ H p = some (.lst vs) ∧ IsA K mg F vs xs ∧ Mine J pr F p := by
  obtain ⟨o, eo, p, vs, rfl, h1, h2, h3⟩ := R.at h
  exact ⟨p, vs, eo, h1, h2, h3⟩
theorem Rep.lset {K : PySem.W.Frag} {mg : Str → Option Value} {pr F H : Hp} {env : En} {σ : L2.St} {xs ys : List D} {p : Addr} {ws : List V} (R : Rep K mg J pr env σ F H) (h : env[i]? = some (.own xs)) (hp : σ[i]? = some (some (V.ref p))) (ia : IsA K mg F ws ys) : Rep K mg J pr (env.set i (.own ys)) σ F (upd H p (.lst ws)) := by
  obtain ⟨p', vs, e1, h1, h2, m⟩ := own_at R h
  rw [hp] at e1
  cases e1
  exact R.write h rfl hp m ⟨p, ws, rfl, upd_same, ia, m⟩
theorem de_app (ho : PE X o (tVar i)) (h : DE X J e we) (hbase : attributeBase o "append" X.env (eval o X.env) = eval o X.env := by rfl)
    (hfew : ((backTo cpos (starEach (e :: []) X.env)).all (fun x => !x.1) && (backToKw cpos (keywordEach [] X.env)).all (fun x => x.1.isSome) && decide ((e :: []).length + ([] : List Keyword).length + (if ([] : List Keyword).isEmpty then 0 else 1) < 30)) = true := by rfl)
    (hline : (apos.endLine == cpos.line) = true := by rfl) (hs : starEach (e :: []) X.env = (false, eval e X.env) :: starEach [] X.env := by rfl) (hplain : (backTo cpos (starEach [] X.env)).any (·.1) = false := by rfl) :
    DE X J (.Call (.Attribute o "append" apos) [e] [] cpos) (wApp i we) := by
  refine ⟨fun pr => PE.imp (pe_bm PySem.F.plainAttrs_list PySem.F.slot_list_append PySem.F.type_list_append mt_append ho (pa_cons h.x pa_nil hs) hbase hfew hline hs hplain) fun σ H Q ⟨env, F, q, R, ⟨⟨xs, hx⟩, hw⟩, k⟩ => ?_⟩
  obtain ⟨p, vs, e1, h1, h2, m⟩ := own_at R hx
  refine ⟨_, e1, .inl ⟨rfl, vs, SqL.of h1⟩, pr, env, F, _, R, hw, fun d e2 v F2 H2 R2 s2 i2 ⟨ys, hy, hl, hq⟩ => ?_⟩
  obtain ⟨p', ws, e3, h3, h4, m'⟩ := own_at R2 hy
  rw [e1] at e3
  cases e3
  exact ⟨p, ws, v, rfl, rfl, h3, by rw [h4.length]; exact hl, k _ _ _ F2 _ (R2.lset hy e1 (h4.append (.cons i2 .nil))) s2 .non hq⟩
theorem de_ext (ho : PE X o (tVar i)) (h : DE X J e we) (hbase : attributeBase o "extend" X.env (eval o X.env) = eval o X.env := by rfl)
    (hfew : ((backTo cpos (starEach (e :: []) X.env)).all (fun x => !x.1) && (backToKw cpos (keywordEach [] X.env)).all (fun x => x.1.isSome) && decide ((e :: []).length + ([] : List Keyword).length + (if ([] : List Keyword).isEmpty then 0 else 1) < 30)) = true := by rfl)
    (hline : (apos.endLine == cpos.line) = true := by rfl) (hs : starEach (e :: []) X.env = (false, eval e X.env) :: starEach [] X.env := by rfl) (hplain : (backTo cpos (starEach [] X.env)).any (·.1) = false := by rfl) :
    DE X J (.Call (.Attribute o "extend" apos) [e] [] cpos) (wExt i we) := by
  refine ⟨fun pr => PE.imp (pe_bm PySem.F.plainAttrs_list PySem.F.slot_list_extend PySem.F.type_list_extend mt_extend ho (pa_cons h.x pa_nil hs) hbase hfew hline hs hplain) fun σ H Q ⟨env, F, q, R, ⟨⟨xs, hx⟩, hw⟩, k⟩ => ?_⟩
  obtain ⟨p, vs, e1, h1, h2, m⟩ := own_at R hx
  refine ⟨_, e1, .inl ⟨rfl, vs, SqL.of h1⟩, pr, env, F, _, R, hw, fun d e2 v F2 H2 R2 s2 i2 ⟨ys, zs, hy, hd, hl, hq⟩ => ?_⟩
  subst hd
  obtain ⟨b, us, rfl, hb, ib⟩ := i2.lst_inv
  obtain ⟨p', ws, e3, h3, h4, m'⟩ := own_at R2 hy
  rw [e1] at e3
  cases e3
  exact ⟨p, b, ws, us, rfl, rfl, h3, R2.st.sub _ _ hb, by rw [h4.length, ib.length]; exact hl, k _ _ _ F2 _ (R2.lset hy e1 (h4.append ib)) s2 .non hq⟩
theorem de_popAt (ho : PE X o (tVar i)) (h : DE X J e we) (hbase : attributeBase o "pop" X.env (eval o X.env) = eval o X.env := by rfl)
    (hfew : ((backTo cpos (starEach (e :: []) X.env)).all (fun x => !x.1) && (backToKw cpos (keywordEach [] X.env)).all (fun x => x.1.isSome) && decide ((e :: []).length + ([] : List Keyword).length + (if ([] : List Keyword).isEmpty then 0 else 1) < 30)) = true := by rfl)
    (hline : (apos.endLine == cpos.line) = true := by rfl) (hs : starEach (e :: []) X.env = (false, eval e X.env) :: starEach [] X.env := by rfl) (hplain : (backTo cpos (starEach [] X.env)).any (·.1) = false := by rfl) :
    DE X J (.Call (.Attribute o "pop" apos) [e] [] cpos) (wPopAt i we) := by
  refine ⟨fun pr => PE.imp (pe_bm PySem.F.plainAttrs_list PySem.F.slot_list_pop PySem.F.type_list_pop mt_popAt ho (pa_cons h.x pa_nil hs) hbase hfew hline hs hplain) fun σ H Q ⟨env, F, q, R, ⟨⟨xs, hx⟩, hw⟩, k⟩ => ?_⟩
  obtain ⟨p, vs, e1, h1, h2, m⟩ := own_at R hx
  refine ⟨_, e1, .inl ⟨rfl, vs, SqL.of h1⟩, pr, env, F, _, R, hw, fun d e2 v F2 H2 R2 s2 i2 ⟨ys, j, l, y, hy, hd, b1, b2, hk, hg, hq⟩ => ?_⟩
  subst hd
  cases i2.int_inv
  obtain ⟨p', ws, e3, h3, h4, m'⟩ := own_at R2 hy
  rw [e1] at e3
  cases e3
  obtain ⟨z, hz, iz⟩ := h4.get hg
  exact ⟨p, ws, j, l, z, rfl, rfl, h3, b1, b2, by rw [h4.length]; exact hk, hz, k _ _ _ F2 _ (R2.lset hy e1 (h4.eraseIdx l)) s2 iz hq⟩
theorem de_pop (ho : PE X o (tVar i)) (hbase : attributeBase o "pop" X.env (eval o X.env) = eval o X.env := by rfl) (hline : (apos.endLine == cpos.line) = true := by rfl) : DE X J (.Call (.Attribute o "pop" apos) [] [] cpos) (wPop i) := by
  refine ⟨fun pr => PE.imp (pe_bm0 PySem.F.plainAttrs_list PySem.F.slot_list_pop PySem.F.type_list_pop mt_pop ho hbase hline) fun σ H Q ⟨env, F, q, R, ⟨xs, y, hx, hy, hq⟩, k⟩ => ?_⟩
  obtain ⟨p, vs, e1, h1, h2, m⟩ := own_at R hx
  obtain ⟨z, hz, iz⟩ := h2.get hy
  exact ⟨_, e1, .inl ⟨rfl, vs, SqL.of h1⟩, p, vs, z, rfl, rfl, h1, by rw [h2.length]; exact hz, k _ _ _ F _ (R.lset hx e1 h2.dropLast) (Same.refl _) iz hq⟩
end
/-- own[e] = value -/
@[simp] def gIxL (i : Nat) (we : WE) : WG := fun d env q => (∃ xs, env[i]? = some (.own xs)) ∧ we env fun x e1 => ∃ xs j k, e1[i]? = some (.own xs) ∧ x = .int j ∧ ixN xs.length j = some k ∧ q (e1.set i (.own (xs.set k d)))
section
variable {X : Cx} {J : GJ} {o e : Expr} {we : WE} {pos : Pos} {i : Nat}
theorem dg_ixL (ho : PE X o (tVar i)) (h : DE X J e we)
    (ha : ∀ v, assign (.Subscript o e pos) X.env v = (do
      let ov ← holding [v] (eval o X.env)
      let iv ← holding [v, ov] (eval e X.env)
      standAt pos
      holding [v, ov, iv] (setItem ov iv v)
      release [v, ov, iv] []) := by intro _; rfl) : DG X J (.Subscript o e pos) [] (gIxL i we) := by
  refine ⟨PG.imp (pg_sub ho h.x set_list ha) fun v σ H Q ⟨pr, env, F, d, q, R, iv, ⟨⟨xs, hx⟩, hw⟩, k⟩ => ?_⟩
  obtain ⟨p, vs, e1, h1, h2, m⟩ := own_at R hx
  refine ⟨_, e1, pr, env, F, _, R, hw, fun x e2 u F2 H2 R2 s2 i2 ⟨ys, j, l, hy, hd, hk, hq⟩ => ?_⟩
  subst hd
  cases i2.int_inv
  obtain ⟨p', ws, e3, h3, h4, m'⟩ := own_at R2 hy
  rw [e1] at e3
  cases e3
  exact ⟨p, ws, j, l, rfl, rfl, h3, by rw [h4.length]; exact hk, k _ σ F2 _ (R2.lset hy e1 (IsA.set l (iv.mono s2) h4)) s2 (fun _ _ => rfl) rfl hq⟩
end

/-- the same of a list whose address is known -/
@[simp] def gIxAt (i : Nat) (we : WE) : WG := fun d env q => (∃ a xs, env[i]? = some (.lat a xs)) ∧ we env fun x e1 => ∃ a xs j k, e1[i]? = some (.lat a xs) ∧ x = .int j ∧ ixN xs.length j = some k ∧ q (e1.set i (.lat a (xs.set k d)))
section
variable {X : Cx} {J : GJ} {o e : Expr} {we : WE} {pos : Pos} {i : Nat}
theorem lat_at {K : PySem.W.Frag} {mg : Str → Option Value} {pr F H : Hp} {env : En} {σ : L2.St} {xs : List D} {a : Addr} (R : Rep K mg J pr env σ F H) (h : env[i]? = some (.lat a xs)) :
    ∃ vs, σ[i]? = some (some (V.ref a)) ∧ H a = some (.lst vs) ∧ IsA K mg F vs xs ∧ Mine J pr F a := by
  obtain ⟨o, eo, p, vs, rfl, h1, ⟨h2, rfl⟩, h3⟩ := R.at h
  exact ⟨vs, eo, h1, h2, h3⟩
theorem dg_ixAt (ho : PE X o (tVar i)) (h : DE X J e we)
    (ha : ∀ v, assign (.Subscript o e pos) X.env v = (do
      let ov ← holding [v] (eval o X.env)
      let iv ← holding [v, ov] (eval e X.env)
      standAt pos
      holding [v, ov, iv] (setItem ov iv v)
      release [v, ov, iv] []) := by intro _; rfl) : DG X J (.Subscript o e pos) [] (gIxAt i we) := by
  refine ⟨PG.imp (pg_sub ho h.x set_list ha) fun v σ H Q ⟨pr, env, F, d, q, R, iv, ⟨⟨a, xs, hx⟩, hw⟩, k⟩ => ?_⟩
  obtain ⟨vs, e1, h1, h2, m⟩ := lat_at R hx
  refine ⟨_, e1, pr, env, F, _, R, hw, fun x e2 u F2 H2 R2 s2 i2 ⟨b, ys, j, l, hy, hd, hk, hq⟩ => ?_⟩
  subst hd
  cases i2.int_inv
  obtain ⟨ws, e3, h3, h4, m'⟩ := lat_at R2 hy
  rw [e1] at e3
  cases e3
  exact ⟨a, ws, j, l, rfl, rfl, h3, by rw [h4.length]; exact hk, k (e2.set i (.lat a (ys.set l d))) σ F2 _ (R2.write hy rfl e1 m' ⟨a, _, rfl, upd_same, ⟨IsA.set l (iv.mono s2) h4, rfl⟩, m'⟩) s2 (fun _ _ => rfl) rfl hq⟩
end

/-! ### dicts -/
section
variable {κ : Type} [DecidableEq κ]
def dLook (kvs : List (κ × D)) (k : κ) : Option D := (kvs.find? fun kv => decide (kv.1 = k)).map (·.2)
def dPut (kvs : List (κ × D)) (k : κ) (d : D) : List (κ × D) := if (kvs.any fun kv => decide (kv.1 = k)) = true then kvs.map (fun kv => if kv.1 = k then (kv.1, d) else kv) else kvs ++ [(k, d)]
variable {K : PySem.W.Frag} {mg : Str → Option Value} {F : Hp}
theorem IsKV.look {ws : List (κ × V)} {kvs : List (κ × D)} (h : IsKV K mg F ws kvs) (k : κ) : (∀ d, dLook kvs k = some d → ∃ v, valV ws k = some v ∧ Is K mg F v d) ∧ (dLook kvs k = none → valV ws k = none) := by
  induction h with
  | nil => exact ⟨fun d e => by simp [dLook] at e, fun _ => rfl⟩
  | @cons p q ps qs h t ih =>
    obtain ⟨h1, h2⟩ := h
    by_cases e : p.1 = k
    · have e' : q.1 = k := h1 ▸ e
      rw [valV_pos e]
      refine ⟨fun d ed => ⟨_, rfl, ?_⟩, fun ed => ?_⟩
      · simp [dLook, List.find?_cons, e'] at ed
        rw [← ed]
        exact h2
      · simp [dLook, List.find?_cons, e'] at ed
    · have e' : ¬ q.1 = k := h1 ▸ e
      rw [valV_neg e]
      have : dLook (q :: qs) k = dLook qs k := by simp [dLook, List.find?_cons, e']
      rw [this]
      exact ih
theorem IsKV.any {ws : List (κ × V)} {kvs : List (κ × D)} (h : IsKV K mg F ws kvs) (k : κ) : (ws.any fun kv => decide (kv.1 = k)) = kvs.any fun kv => decide (kv.1 = k) := by
  induction h with
  | nil => rfl
  | @cons p q ps qs h t ih =>
    rw [List.any_cons, List.any_cons, ih, h.1]
theorem IsKV.length {ws : List (κ × V)} {kvs : List (κ × D)} (h : IsKV K mg F ws kvs) : ws.length = kvs.length := Paired.length h
theorem IsKV.app {ws us : List (κ × V)} {kvs ls : List (κ × D)} (h : IsKV K mg F ws kvs) (h' : IsKV K mg F us ls) : IsKV K mg F (ws ++ us) (kvs ++ ls) := by
  induction h with
  | nil => exact h'
  | cons h t ih => exact .cons h ih
theorem IsKV.repl {ws : List (κ × V)} {kvs : List (κ × D)} (h : IsKV K mg F ws kvs) (k : κ) {v : V} {d : D} (i : Is K mg F v d) : IsKV K mg F (ws.map fun kv => if kv.1 = k then (kv.1, v) else kv) (kvs.map fun kv => if kv.1 = k then (kv.1, d) else kv) := by
  induction h with
  | nil => exact .nil
  | @cons p q ps qs h t ih =>
    refine .cons ?_ ih
    by_cases e : p.1 = k
    · have e' : q.1 = k := h.1 ▸ e
      show (if p.1 = k then (p.1, v) else p).1 = (if q.1 = k then (q.1, d) else q).1 ∧ Is K mg F (if p.1 = k then (p.1, v) else p).2 (if q.1 = k then (q.1, d) else q).2
      rw [if_pos e, if_pos e']
      exact ⟨h.1, i⟩
    · have e' : ¬ q.1 = k := h.1 ▸ e
      show (if p.1 = k then (p.1, v) else p).1 = (if q.1 = k then (q.1, d) else q).1 ∧ Is K mg F (if p.1 = k then (p.1, v) else p).2 (if q.1 = k then (q.1, d) else q).2
      rw [if_neg e, if_neg e']
      exact h
theorem IsKV.put {ws : List (κ × V)} {kvs : List (κ × D)} (h : IsKV K mg F ws kvs) (k : κ) {v : V} {d : D} (i : Is K mg F v d) : IsKV K mg F (putK ws k v) (dPut kvs k d) := by
  unfold putK dPut
  rw [h.any k]
  by_cases c : (kvs.any fun kv => decide (kv.1 = k)) = true
  · rw [if_pos c, if_pos c]
    exact h.repl k i
  · rw [if_neg c, if_neg c]
    exact h.app (.cons ⟨rfl, i⟩ .nil)
end
@[simp] def keyOf : D → Option Key
  | .int i => some (.inl i)
  | .str x => some (.inr x)
  | _ => none
@[simp] def keysOf : List D → Option (List Key)
  | [] => some []
  | d :: ds => match keyOf d, keysOf ds with
    | some k, some ks => some (k :: ks)
    | _, _ => none
theorem key_val {K : PySem.W.Frag} {mg : Str → Option Value} {F : Hp} {v : V} {d : D} {k : Key} (h : Is K mg F v d) (e : keyOf d = some k) : v = kV k := by
  cases d <;> simp only [keyOf] at e <;> first | (cases e; done) | skip
  · cases e
    exact h.int_inv
  · cases e
    exact h.str_inv
theorem keys_val {K : PySem.W.Frag} {mg : Str → Option Value} {F : Hp} : ∀ {vs : List V} {ds : List D} {ks : List Key}, IsA K mg F vs ds → keysOf ds = some ks → vs = ks.map kV
  | _, _, _, .nil, e => by
    cases e
    rfl
  | _, _, _, .cons h t, e => by
    unfold keysOf at e
    split at e
    · rename_i k ks e1 e2
      cases e
      rw [key_val h e1, keys_val t e2]
      rfl
    · cases e
/-- a key that is a tuple, written out -/
abbrev WK := En → (List Key → En → Prop) → Prop
def tKy (K : PySem.W.Frag) (mg : Str → Option Value) (J : GJ) (w : WK) : TE := fun σ H Q => ∃ (pr : Hp) (env : En) (F : Hp) (q : List Key → En → Prop), Rep K mg J pr env σ F H ∧ w env q ∧
  ∀ ks env' b F' H', Rep K mg J pr env' σ F' H' → Same F F' → F' b = some (.tup (ks.map kV)) → q ks env' → Q (.ref b) H'
structure DK (X : Cx) (J : GJ) (e : Expr) (w : WK) : Prop where
  run : PE X e (tKy X.K X.mg J w)
@[simp] def wKeys (w : WA) : WK := fun env q => w env fun as e1 => ∃ ds ks, reals as = some ds ∧ keysOf ds = some ks ∧ ds.length ≤ 1000 ∧ q ks e1
section
variable {X : Cx} {J : GJ} {es : List Expr} {w : WA} {pos : Pos}
theorem dk_tup {k} (h : DA X J es w) : DK X J (.Tuple es k pos) (wKeys w) := by
  refine ⟨⟨fun pins s σ H Q I ⟨pr, env, F, q, R, hw, k⟩ => (pe_tup (h.run pr)).run pins s σ H Q I ⟨env, F, _, R, hw, fun as e1 vs F1 H1 R1 s1 i1 ⟨ds, ks, h1, h2, hl, hq⟩ => ?_⟩⟩⟩
  have ia := i1.real h1
  refine ⟨by rw [ia.length, sizeLine_eq]; omega, fun p n => ?_⟩
  obtain ⟨R2, s2⟩ := R1.laid (o := .tup vs) n
  exact k ks e1 p _ _ R2 (s1.trans s2) (by rw [upd_same, keys_val ia h2]) hq
end
/-- told[key] = value; .. with a tuple for a key -/
@[simp] def gDk (i : Nat) (we : WE) : WG := fun d env q => (∃ kvs, env[i]? = some (.dk kvs)) ∧ we env fun x e1 => ∃ kvs k, e1[i]? = some (.dk kvs) ∧ keyOf x = some k ∧ kvs.length < sizeLine ∧ q (e1.set i (.dk (dPut kvs k d)))
@[simp] def gDt (i : Nat) (wk : WK) : WG := fun d env q => (∃ kvs, env[i]? = some (.dt kvs)) ∧ wk env fun ks e1 => ∃ kvs, e1[i]? = some (.dt kvs) ∧ kvs.length < sizeLine ∧ q (e1.set i (.dt (dPut kvs ks d)))
@[simp] def wGet1k (i : Nat) (we : WE) : WE := fun env q => (∃ kvs, env[i]? = some (.dk kvs)) ∧ we env fun x e1 => ∃ kvs k, e1[i]? = some (.dk kvs) ∧ keyOf x = some k ∧ q ((dLook kvs k).getD .non) e1
@[simp] def wGet1t (i : Nat) (wk : WK) : WE := fun env q => (∃ kvs, env[i]? = some (.dt kvs)) ∧ wk env fun ks e1 => ∃ kvs, e1[i]? = some (.dt kvs) ∧ q ((dLook kvs ks).getD .non) e1
@[simp] def wGet2k (i : Nat) (we wd : WE) : WE := fun env q => (∃ kvs, env[i]? = some (.dk kvs)) ∧ we env fun x e1 => wd e1 fun y e2 => ∃ kvs k, e2[i]? = some (.dk kvs) ∧ keyOf x = some k ∧ q ((dLook kvs k).getD y) e2
@[simp] def wGet2t (i : Nat) (wk : WK) (wd : WE) : WE := fun env q => (∃ kvs, env[i]? = some (.dt kvs)) ∧ wk env fun ks e1 => wd e1 fun y e2 => ∃ kvs, e2[i]? = some (.dt kvs) ∧ q ((dLook kvs ks).getD y) e2
@[simp] def wSetd (i : Nat) (we wd : WE) : WE := fun env q => (∃ kvs, env[i]? = some (.dk kvs)) ∧ we env fun x e1 => wd e1 fun y e2 => ∃ kvs k, e2[i]? = some (.dk kvs) ∧ keyOf x = some k ∧ kvs.length < sizeLine ∧
  match dLook kvs k with
  | some d => q d e2
  | none => q y (e2.set i (.dk (dPut kvs k y)))
section
variable {X : Cx} {J : GJ} {o e f : Expr} {we wd : WE} {wk : WK} {pos apos cpos : Pos} {i : Nat}
theorem dk_at {K : PySem.W.Frag} {mg : Str → Option Value} {pr F H : Hp} {env : En} {σ : L2.St} {xs : List (Key × D)} (R : Rep K mg J pr env σ F H) (h : env[i]? = some (.dk xs)) :
    ∃ p vs, σ[i]? = some (some (V.ref p)) ∧ H p = some (.dK vs) ∧ IsKV K mg F vs xs ∧ Mine J pr F p := by
  obtain ⟨o, eo, p, vs, rfl, h1, h2, h3⟩ := R.at h
  exact ⟨p, vs, eo, h1, h2, h3⟩
theorem dt_at {K : PySem.W.Frag} {mg : Str → Option Value} {pr F H : Hp} {env : En} {σ : L2.St} {xs : List (List Key × D)} (R : Rep K mg J pr env σ F H) (h : env[i]? = some (.dt xs)) :
    ∃ p vs, σ[i]? = some (some (V.ref p)) ∧ H p = some (.dT vs) ∧ IsKV K mg F vs xs ∧ Mine J pr F p := by
  obtain ⟨o, eo, p, vs, rfl, h1, h2, h3⟩ := R.at h
  exact ⟨p, vs, eo, h1, h2, h3⟩
theorem set_dict (hu : X.A.units + 1 < cLine) : PSet X (fun o i v H Q => ∃ a H', o = .ref a ∧ DPut H a i v H' ∧ Q H') := by
  intro pins s σ H o i v ov iv u Q I r1 r2 r3 ⟨a, H', e, g, q⟩
  subst e
  obtain rfl : ov = Value.ref a := r1
  exact d_setItem hu I g r2 r3 fun s' I' => ⟨H', I', q⟩
theorem dg_dk (hu : X.A.units + 1 < cLine) (ho : PE X o (tVar i)) (h : DE X J e we)
    (ha : ∀ v, assign (.Subscript o e pos) X.env v = (do
      let ov ← holding [v] (eval o X.env)
      let iv ← holding [v, ov] (eval e X.env)
      standAt pos
      holding [v, ov, iv] (setItem ov iv v)
      release [v, ov, iv] []) := by intro _; rfl) : DG X J (.Subscript o e pos) [] (gDk i we) := by
  refine ⟨PG.imp (pg_sub ho h.x (set_dict hu) ha) fun v σ H Q ⟨pr, env, F, d, q, R, iv, ⟨⟨xs, hx⟩, hw⟩, k⟩ => ?_⟩
  obtain ⟨p, vs, e1, h1, h2, m⟩ := dk_at R hx
  refine ⟨_, e1, pr, env, F, _, R, hw, fun x e2 u F2 H2 R2 s2 i2 ⟨ys, l, hy, hd, hl, hq⟩ => ?_⟩
  obtain ⟨p', ws, e3, h3, h4, m'⟩ := dk_at R2 hy
  rw [e1] at e3
  cases e3
  have hk := key_val i2 hd
  subst hk
  refine ⟨p, _, rfl, DPut.k h3 (by rw [h4.length]; exact hl), k (e2.set i (.dk (dPut ys l d))) σ F2 _ (R2.write hy rfl e1 m' ⟨p, _, rfl, upd_same, h4.put l (iv.mono s2), m'⟩) s2 (fun _ _ => rfl) rfl hq⟩
theorem dg_dt (hu : X.A.units + 1 < cLine) (ho : PE X o (tVar i)) (h : DK X J e wk)
    (ha : ∀ v, assign (.Subscript o e pos) X.env v = (do
      let ov ← holding [v] (eval o X.env)
      let iv ← holding [v, ov] (eval e X.env)
      standAt pos
      holding [v, ov, iv] (setItem ov iv v)
      release [v, ov, iv] []) := by intro _; rfl) : DG X J (.Subscript o e pos) [] (gDt i wk) := by
  refine ⟨PG.imp (pg_sub ho h.run (set_dict hu) ha) fun v σ H Q ⟨pr, env, F, d, q, R, iv, ⟨⟨xs, hx⟩, hw⟩, k⟩ => ?_⟩
  obtain ⟨p, vs, e1, h1, h2, m⟩ := dt_at R hx
  refine ⟨_, e1, pr, env, F, _, R, hw, fun l e2 b F2 H2 R2 s2 i2 ⟨ys, hy, hl, hq⟩ => ?_⟩
  obtain ⟨p', ws, e3, h3, h4, m'⟩ := dt_at R2 hy
  rw [e1] at e3
  cases e3
  refine ⟨p, _, rfl, DPut.t h3 (R2.st.sub _ _ i2) (by rw [h4.length]; exact hl), k (e2.set i (.dt (dPut ys l d))) σ F2 _ (R2.write hy rfl e1 m' ⟨p, _, rfl, upd_same, h4.put l (iv.mono s2), m'⟩) s2 (fun _ _ => rfl) rfl hq⟩
theorem look_getD {κ : Type} [DecidableEq κ] {K : PySem.W.Frag} {mg : Str → Option Value} {F : Hp} {ws : List (κ × V)} {kvs : List (κ × D)} (h : IsKV K mg F ws kvs) (l : κ) {v : V} {d : D} (i : Is K mg F v d) : Is K mg F ((valV ws l).getD v) ((dLook kvs l).getD d) := by
  obtain ⟨h1, h2⟩ := h.look l
  cases e : dLook kvs l with
  | none =>
    rw [h2 e]
    exact i
  | some d' =>
    obtain ⟨v', ev, iv⟩ := h1 d' e
    rw [ev]
    exact iv
theorem de_get1k (hu : X.A.units + 1 < cLine) (ho : PE X o (tVar i)) (h : DE X J e we) (m : M1 X o "get" apos e cpos) : DE X J (.Call (.Attribute o "get" apos) [e] [] cpos) (wGet1k i we) := by
  refine ⟨fun pr => PE.imp (pe_dget1 hu ho h.x m) fun σ H Q ⟨env, F, q, R, ⟨⟨xs, hx⟩, hw⟩, k⟩ => ?_⟩
  obtain ⟨p, vs, e1, h1, h2, mm⟩ := dk_at R hx
  refine ⟨_, e1, p, rfl, .inl ⟨_, .inl h1⟩, pr, env, F, _, R, hw, fun x e2 u F2 H2 R2 s2 i2 ⟨ys, l, hy, hd, hq⟩ => ?_⟩
  obtain ⟨p', ws, e3, h3, h4, m'⟩ := dk_at R2 hy
  rw [e1] at e3
  cases e3
  have hk := key_val i2 hd
  subst hk
  exact ⟨_, DGet.k h3, k _ e2 _ F2 H2 R2 s2 (look_getD h4 l .non) hq⟩
theorem de_get1t (hu : X.A.units + 1 < cLine) (ho : PE X o (tVar i)) (h : DK X J e wk) (m : M1 X o "get" apos e cpos) : DE X J (.Call (.Attribute o "get" apos) [e] [] cpos) (wGet1t i wk) := by
  refine ⟨fun pr => PE.imp (pe_dget1 hu ho h.run m) fun σ H Q ⟨env, F, q, R, ⟨⟨xs, hx⟩, hw⟩, k⟩ => ?_⟩
  obtain ⟨p, vs, e1, h1, h2, mm⟩ := dt_at R hx
  refine ⟨_, e1, p, rfl, .inr ⟨_, .inl h1⟩, pr, env, F, _, R, hw, fun l e2 b F2 H2 R2 s2 i2 ⟨ys, hy, hq⟩ => ?_⟩
  obtain ⟨p', ws, e3, h3, h4, m'⟩ := dt_at R2 hy
  rw [e1] at e3
  cases e3
  exact ⟨_, DGet.t h3 (R2.st.sub _ _ i2), k _ e2 _ F2 H2 R2 s2 (look_getD h4 l .non) hq⟩
theorem de_get2k (hu : X.A.units + 1 < cLine) (ho : PE X o (tVar i)) (h : DE X J e we) (h' : DE X J f wd) (m : M2 X o "get" apos e f cpos) : DE X J (.Call (.Attribute o "get" apos) [e, f] [] cpos) (wGet2k i we wd) := by
  refine ⟨fun pr => PE.imp (pe_dget2 hu ho h.x h'.x m) fun σ H Q ⟨env, F, q, R, ⟨⟨xs, hx⟩, hw⟩, k⟩ => ?_⟩
  obtain ⟨p, vs, e1, h1, h2, mm⟩ := dk_at R hx
  refine ⟨_, e1, p, rfl, .inl ⟨_, .inl h1⟩, pr, env, F, _, R, hw, fun x e2 u F2 H2 R2 s2 i2 hw2 => ⟨pr, e2, F2, _, R2, hw2, fun y e3 z F3 H3 R3 s3 i3 ⟨ys, l, hy, hd, hq⟩ => ?_⟩⟩
  obtain ⟨p', ws, e4, h3, h4, m'⟩ := dk_at R3 hy
  rw [e1] at e4
  cases e4
  have hk := key_val i2 hd
  subst hk
  exact ⟨_, DGet.k h3, k _ e3 _ F3 H3 R3 (s2.trans s3) (look_getD h4 l i3) hq⟩
theorem de_get2t (hu : X.A.units + 1 < cLine) (ho : PE X o (tVar i)) (h : DK X J e wk) (h' : DE X J f wd) (m : M2 X o "get" apos e f cpos) : DE X J (.Call (.Attribute o "get" apos) [e, f] [] cpos) (wGet2t i wk wd) := by
  refine ⟨fun pr => PE.imp (pe_dget2 hu ho h.run h'.x m) fun σ H Q ⟨env, F, q, R, ⟨⟨xs, hx⟩, hw⟩, k⟩ => ?_⟩
  obtain ⟨p, vs, e1, h1, h2, mm⟩ := dt_at R hx
  refine ⟨_, e1, p, rfl, .inr ⟨_, .inl h1⟩, pr, env, F, _, R, hw, fun l e2 b F2 H2 R2 s2 i2 hw2 => ⟨pr, e2, F2, _, R2, hw2, fun y e3 z F3 H3 R3 s3 i3 ⟨ys, hy, hq⟩ => ?_⟩⟩
  obtain ⟨p', ws, e4, h3, h4, m'⟩ := dt_at R3 hy
  rw [e1] at e4
  cases e4
  exact ⟨_, DGet.t h3 (R3.st.sub _ _ (s3 _ _ i2)), k _ e3 _ F3 H3 R3 (s2.trans s3) (look_getD h4 l i3) hq⟩
end
end DL

/-! DL9: list(range(..)), len(set(..)), any target stored, setdefault, name op= value. -/
namespace DL
open PySem PySem.Spec PyProof.Rows L2

theorem isA_rg {K : PySem.W.Frag} {mg : Str → Option Value} {F : Hp} (n : Int) : IsA K mg F (rgV 0 n) (rgD 0 1 n.toNat) := by
  have : rgV 0 n = ((List.range n.toNat).map fun i => (0 + (i : Nat) * 1 : Int)).map V.int := by
    unfold rgV
    rw [List.map_map, Int.sub_zero]
    exact List.map_congr_left fun i _ => by
      show V.int (0 + (i : Nat)) = V.int (0 + (i : Nat) * 1)
      rw [Int.mul_one]
  rw [this]
  have e : rgD 0 1 n.toNat = ((List.range n.toNat).map fun i => (0 + (i : Nat) * 1 : Int)).map D.int := by
    unfold rgD
    rw [List.map_map]
    rfl
  rw [e]
  exact isA_ints
@[simp] def wLRg (w : WE) : WE := fun env q => w env fun d e1 => ∃ n : Int, d = .int n ∧ (-1000 ≤ n ∧ n ≤ 1000) ∧ q (.lst (rgD 0 1 n.toNat)) e1
@[simp] def wLenSet (w : WE) : WE := fun env q => w env fun d e1 => ∃ ns : List Int, d = .tup (ns.map D.int) ∧ ns.length ≤ 1000 ∧ ∀ out : List Int, out.Nodup → (∀ k, k ∈ out ↔ k ∈ ns) → q (.int (out.length : Nat)) e1
section
variable {X : Cx} {J : GJ} {e : Expr} {we : WE} {p p2 pos q : Pos}
theorem de_lrg (hc : X.calm = true) (hg : Gl X "list") (hm : X.mg "list" = none) (hg2 : Gl X "range") (hm2 : X.mg "range" = none) (h : DE X J e we)
    (n1 : starEach [.Call (.Name "range" p2) [e] [] q] X.env = (false, eval (.Call (.Name "range" p2) [e] [] q) X.env) :: starEach [] X.env := by rfl)
    (n2 : starEach [e] X.env = (false, eval e X.env) :: starEach [] X.env := by rfl) : DE X J (.Call (.Name "list" p) [.Call (.Name "range" p2) [e] [] q] [] pos) (wLRg we) := by
  refine ⟨fun pr => PE.imp (pe_listRg hc hg hm (prg_1 hg2 hm2 (h.run pr) n2) n1) fun σ H Q ⟨env, F, q, R, hw, k⟩ => ⟨env, F, _, R, hw, fun d e1 v F1 H1 R1 s1 i1 ⟨n, ed, hb, hq⟩ => ?_⟩⟩
  subst ed
  refine ⟨n, i1.int_inv, ⟨by omega, by omega, by omega, by omega, by omega⟩, fun b nb => ?_⟩
  obtain ⟨R2, s2⟩ := R1.laid (o := .lst (rgV 0 n)) nb
  exact k _ e1 _ _ _ R2 (s1.trans s2) (.lst upd_same (isA_rg n)) hq
theorem de_lenSet (hg : Gl X "len") (hm : X.mg "len" = none) (hg2 : Gl X "set") (hm2 : X.mg "set" = none) (h : DE X J e we) (hc : X.calm = true := by rfl)
    (na : starEach [e] X.env = (false, eval e X.env) :: starEach [] X.env := by rfl) : DE X J (.Call (.Name "len" p) [.Call (.Name "set" p2) [e] [] q] [] pos) (wLenSet we) := by
  refine ⟨fun pr => ⟨fun pins s σ H Q I ⟨env, F, r, R, hw, k⟩ => ?_⟩⟩
  refine Call_ (ld_blt I hg hm boot_len ?_)
  refine PyProof.Rows.callWith_builtin1 (PyProof.Rows.args_cons ?_ rfl) rfl rfl
  refine Call_ (ld_blt I hg2 hm2 boot_set ?_)
  refine PyProof.Rows.callWith_type1 (PyProof.Rows.args_cons (thn ((h.run pr).run pins s σ H _ I ⟨env, F, fun d e1 => ∃ ns : List Int, d = .tup (ns.map D.int) ∧ ns.length ≤ 1000 ∧ ∀ out : List Int, out.Nodup → (∀ k, k ∈ out ↔ k ∈ ns) → r (.int (out.length : Nat)) e1, R, hw, fun d e1 v F1 H1 R1 s1 i1 hq => (⟨d, e1, F1, R1, s1, i1, hq⟩ : ∃ d e1 F1, Rep X.K X.mg J pr e1 σ F1 H1 ∧ Same F F1 ∧ Is X.K X.mg F1 v d ∧ ∃ ns : List Int, d = .tup (ns.map D.int) ∧ ns.length ≤ 1000 ∧ ∀ out : List Int, out.Nodup → (∀ k, k ∈ out ↔ k ∈ ns) → r (.int (out.length : Nat)) e1)⟩) fun v s1 ⟨x, H1, I1, r1, q1⟩ => PyProof.Rows.args_nil ?_) na) na rfl
  obtain ⟨d, e1, F1, R1, sF, i1, ns, rfl, hl, q1⟩ := q1
  obtain ⟨l, xs, rfl, hq, ia⟩ := i1.tup_inv
  have := ia.ints
  subst this
  cases r1
  obtain ⟨its, rr, pl, hz⟩ := I1.tuple (same_seqT R1.st.sub hq)
  have hi : IntsAre its.toArray.toList ns := ints_of_vals rr
  refine call_set_tupI ns (I1.ok.hd hc) pl hi (by unfold scanBound; omega) fun h' tk c SR hcn hk => ?_
  refine PyProof.Rows.args_nil ?_
  obtain ⟨o, es, ep, t, ho, hex, hdt, g, nd, hm2, hb, hf, hn, hr, hl2⟩ := SR
  have I2 : Inv X pins σ H1 { s1 with heap := h', toks := tk } := I1.kept hk
  exact call_len_set ho hex hdt hf (by rw [hn] <;> omega) ⟨.int _, H1, I2.tok _, ⟨_, rfl⟩, by
    have z := q1 (es.toList.map L2.keyOf) nd fun k => by rw [← hm2 k, decide_eq_true_eq]
    rw [List.length_map, Array.length_toList] at z
    exact k _ e1 _ F1 H1 R1 sF (.int _) z⟩
end
@[simp] def wSetAt (w : WE) (g : WG) : WS := fun env E => w env fun d e1 => g d e1 E.nx
section
variable {X : Cx} {J : GJ} {tg e : Expr} {we wd : WE} {g : WG} {vs : List Nat} {pos : Pos}
theorem ds_asg (h : DE X J e we) (hg : DG X J tg vs g) (hs : swapsWithSole [tg] e pos.line X.env = pure false := by rfl) (hw : swappedStores [tg] e X.env = pure none := by rfl)
    (h1 : (assignEach [tg] X.env).map (·.2) = [assign tg X.env] := by rfl) : DS X J (.Assign [tg] e pos) (wSetAt we g) :=
  ⟨PS.imp (ps_asg h.x hg.run hs hw h1) fun Z σ H ⟨pr, env, F, E, R, hw, le⟩ => ⟨pr, env, F, _, R, hw, fun d e1 v F1 H1 R1 s1 i1 hq => ⟨pr, e1, F1, d, _, R1, i1, hq, fun e2 σ2 F2 H2 R2 s2 _ _ hq2 => le.nx e2 σ2 F2 H2 R2 (s1.trans s2) hq2⟩⟩⟩
theorem de_setd {o f : Expr} {apos cpos : Pos} {i : Nat} (ho : PE X o (tVar i)) (h : DE X J e we) (h' : DE X J f wd) (m : M2 X o "setdefault" apos e f cpos) : DE X J (.Call (.Attribute o "setdefault" apos) [e, f] [] cpos) (wSetd i we wd) := by
  refine ⟨fun pr => PE.imp (pe_dsetd ho h.x h'.x m) fun σ H Q ⟨env, F, q, R, ⟨⟨xs, hx⟩, hw⟩, k⟩ => ?_⟩
  obtain ⟨p, vs, e1, h1, h2, mm⟩ := dk_at R hx
  refine ⟨_, e1, p, rfl, .inl ⟨_, .inl h1⟩, pr, env, F, _, R, hw, fun x e2 u F2 H2 R2 s2 i2 hw2 => ⟨pr, e2, F2, _, R2, hw2, fun y e3 z F3 H3 R3 s3 i3 ⟨ys, l, hy, hd, hl, hq⟩ => ?_⟩⟩
  obtain ⟨p', ws, e4, h3, h4, m'⟩ := dk_at R3 hy
  rw [e1] at e4
  cases e4
  have hk := key_val i2 hd
  obtain ⟨l1, l2⟩ := h4.look l
  cases ed : dLook ys l with
  | some d =>
    rw [ed] at hq
    obtain ⟨v, ev, iv⟩ := l1 d ed
    refine ⟨ws, l, h3, hk, by rw [h4.length]; exact hl, fun v' hv' => ?_, fun hn => ?_⟩
    · rw [ev] at hv'
      cases hv'
      exact k _ e3 _ F3 H3 R3 (s2.trans s3) iv hq
    · rw [ev] at hn
      cases hn
  | none =>
    rw [ed] at hq
    have ev := l2 ed
    refine ⟨ws, l, h3, hk, by rw [h4.length]; exact hl, fun v' hv' => ?_, fun hn => ?_⟩
    · rw [ev] at hv'
      cases hv'
    · exact k _ (e3.set i (.dk (dPut ys l y))) _ F3 _ (R3.write hy rfl e1 m' ⟨p, _, rfl, upd_same, h4.put l i3, m'⟩) (s2.trans s3) i3 hq
end
end DL

/-! DL10: enumerate and zip over lists and tuples alike. -/
namespace DL
open PySem PySem.Spec PyProof.Rows L2

/-! ### a list (false) or a tuple (true) -/
def IsItr (k : Bool) (h : Heap) (it a : Addr) (i : Nat) : Prop := match k with
  | true => h.IsTupleIter it a i
  | false => h.IsListIter it a i
def IsSq (k : Bool) (h : Heap) (a : Addr) (items : Array Value) : Prop := match k with
  | true => h.IsTuple a items
  | false => h.IsList a items
def SqK (k : Bool) (K : PySem.W.Frag) (H : Hp) (a : Addr) (xs : List V) : Prop := match k with
  | true => SqT K H a xs
  | false => SqL K H a xs
def itrObj (k : Bool) (a : Addr) : Obj := match k with
  | true => { cls := .type "tuple_iterator", data := .fields #[.ref a, .int 0 0] }
  | false => { cls := .type "list_iterator", data := .fields #[.ref a, .int 0 0] }
section
variable {X : Cx} {pins : List (Addr × Obj)} {σ : L2.St} {H : Hp} {s : Shared} {k : Bool} {a it : Addr} {xs ys : List V}
theorem sq_of (I : Inv X pins σ H s) (h : SqK k X.K H a xs) : ∃ its : List Value, Vals xs its ∧ IsSq k s.heap a its.toArray ∧ a < s.heap.objs.size := by
  cases k with
  | true =>
    obtain ⟨its, r, p, _⟩ := I.tuple h
    obtain ⟨o, e, _⟩ := id p
    exact ⟨its, r, p, Heap.lt_size e⟩
  | false =>
    obtain ⟨its, r, p, _⟩ := I.list h
    exact ⟨its, r, p.isList, p.lt⟩
theorem sq_inj (I : Inv X pins σ H s) (h : SqK k X.K H a xs) (h' : SqK k X.K H a ys) : xs = ys := by
  cases k with
  | true => exact I.tuple_inj h h'
  | false => exact I.list_inj h h'
theorem sq_same {K : PySem.W.Frag} {F H : Hp} (e : Same F H) (h : SqK k K F a xs) : SqK k K H a xs := by
  cases k with
  | true => exact same_seqT e h
  | false => exact e.seq h
theorem itr_at {h h' : Heap} {i : Nat} (x : IsItr k h it a i) (e : ∀ o, h.get? it = some o → h'.get? it = some o) : IsItr k h' it a i := by
  cases k with
  | true => exact Heap.IsTupleIter.at x e
  | false => exact Heap.IsListIter.at x e
theorem itr_obj {h : Heap} {i : Nat} (x : IsItr k h it a i) : ∃ o, h.get? it = some o ∧ (∀ v, o.data ≠ .cell v) ∧ (o.cls = .type "tuple_iterator" ∨ o.cls = .type "list_iterator") := by
  cases k with
  | true =>
    obtain ⟨o, e, c, d⟩ := x
    exact ⟨o, e, (fun v z => by rw [d] at z; cases z), .inl c⟩
  | false =>
    obtain ⟨o, e, c, d⟩ := x
    exact ⟨o, e, (fun v z => by rw [d] at z; cases z), .inr c⟩
theorem sq_obj {h : Heap} {items : Array Value} (x : IsSq k h a items) : ∃ o, h.get? a = some o ∧ (o.cls = .type "tuple" ∨ o.cls = .type "list") := by
  cases k with
  | true =>
    obtain ⟨o, e, c, d⟩ := x
    exact ⟨o, e, .inl c⟩
  | false =>
    obtain ⟨o, e, c, d⟩ := x
    exact ⟨o, e, .inr c⟩
theorem sq_ne_itr {h : Heap} {items : Array Value} {i : Nat} (x : IsSq k h a items) (y : IsItr k h it a i) : a ≠ it := fun e => by
  subst e
  obtain ⟨o, e1, c1⟩ := sq_obj x
  obtain ⟨o', e2, _, c2⟩ := itr_obj y
  rw [e1] at e2
  cases e2
  rcases c1 with c1 | c1 <;> rcases c2 with c2 | c2 <;> rw [c1] at c2 <;> simp at c2
theorem draws {prog : Program} {w : World} {A : Around} (k : Bool) (hh : A.handled = none) (it a : Addr) (hne : a ≠ it) (items : Array Value) :
    Draws prog w A it [it, a] items.size (fun i v => items[i]? = some v) (fun i h => IsItr k h it a i ∧ IsSq k h a items) := by
  cases k with
  | true => exact Draws.tuple hh it a hne items
  | false => exact Draws.list hh it a hne items
theorem sq_at {h h' : Heap} {items : Array Value} (x : IsSq k h a items) (e : ∀ o, h.get? a = some o → h'.get? a = some o) : IsSq k h' a items := by
  cases k with
  | true => exact Heap.IsTuple.at x e
  | false => exact Heap.IsList.at x e
/-- at the end -/
theorem drawsEnd {prog : Program} {w : World} {A : Around} (k : Bool) (hh : A.handled = none) (it a : Addr) (items : Array Value) (n : Nat) (hn : items[n]? = none) :
    Draws prog w A it [it, a] n (fun _ _ => False) (fun i h => i = n ∧ IsItr k h it a n ∧ IsSq k h a items) where
  live := fun _ _ st => let ⟨o, ho, _⟩ := itr_obj st.2.1; ⟨o, ho⟩
  frame := fun _ _ _ st hk => ⟨st.1, itr_at st.2.1 fun o e => hk it (by simp) o e, sq_at st.2.2 fun o e => hk a (by simp) o e⟩
  item := fun i s Q E hi st hQ => absurd st.1 (Nat.ne_of_lt hi)
  done := fun s Q E st hE => by
    cases k with
    | true => exact wpAny_nextOf_tuple_end hh st.2.1 st.2.2 hn hE
    | false => exact wpAny_nextOf_list_end hh st.2.1 st.2.2 hn hE
theorem begins (k : Bool) (a : Addr) (items : Array Value) : Begins (.ref a) (itrObj k a) fun h => IsSq k h a items := by
  cases k with
  | true => exact begins_tuple a items
  | false => exact begins_list a items
theorem itr_new {h : Heap} (e : h.get? it = some (itrObj k a)) : IsItr k h it a 0 := by
  cases k with
  | true => exact ⟨_, e, rfl, rfl⟩
  | false => exact ⟨_, e, rfl, rfl⟩
end
/-- some walk through it that is as far as i -/
theorem draws_at {prog : Program} {w : World} {A : Around} (k : Bool) (hh : A.handled = none) (it a : Addr) (hne : a ≠ it) (items : Array Value) (i : Nat) :
    ∃ n P St, Draws prog w A it [it, a] n P St ∧ (∀ h, IsItr k h it a i → IsSq k h a items → St i h) ∧ i ≤ n ∧ (items.size ≤ i → i = n) := by
  by_cases hi : items.size ≤ i
  · exact ⟨i, _, _, drawsEnd k hh it a items i (by simp [hi]), fun h x y => ⟨rfl, x, y⟩, Nat.le_refl _, fun _ => rfl⟩
  · exact ⟨items.size, _, _, draws k hh it a hne items, fun h x y => ⟨x, y⟩, by omega, fun h => absurd h hi⟩

/-! ### enumerate -/
def IteK (k : Bool) (K : PySem.W.Frag) (a : Addr) : It :=
  ⟨fun i H => ∃ (xs : List V) (x : V), SqK k K H a xs ∧ xs[i]? = some x, fun i H v H' => ∃ T x, v = .ref T ∧ H T = none ∧ H' = upd H T (.tup [.int (i : Nat), x]) ∧ ∀ xs, SqK k K H a xs → xs[i]? = some x, fun i H => ∃ xs : List V, SqK k K H a xs ∧ xs.length ≤ i⟩
theorem turn_enumK {P : Program} {w : World} {K : PySem.W.Frag} {elts : List Expr} {kk : Nat} {tpos : Pos} (k : Bool) (a e it : Addr) :
    Turn P w K (.Tuple elts kk tpos) (IteK k K a) [e, it] e (fun i h => (∃ old, IsEnum h e it ((i : Nat) : Int) old) ∧ IsItr k h it a i ∧ e ≠ it) where
  mem := by simp
  obj := fun i h st b hb => by
    obtain ⟨⟨old, he⟩, hi, _⟩ := st
    obtain ⟨o, ho, hd, _⟩ := itr_obj hi
    have e' : b = e ∨ b = it := by simpa using hb
    rcases e' with z | z
    · rw [z]; exact ⟨_, he, fun v q => nomatch q⟩
    · rw [z]; exact ⟨o, ho, hd⟩
  keep := fun i h h' st k => let ⟨⟨old, he⟩, hi, hne⟩ := st; ⟨⟨old, k e (by simp) _ he⟩, itr_at hi fun o q => k it (by simp) o q, hne⟩
  item := by
    intro X hP hw hK hc i pins s σ H E I hf st hg
    subst hP hw hK
    obtain ⟨⟨old, he⟩, hit, hne⟩ := st
    obtain ⟨xs, x, hq, hx⟩ := hg
    obtain ⟨its, rv, p, _⟩ := sq_of I hq
    obtain ⟨u, hu, ru⟩ := rv.get hx
    have hh : X.A.in1.handled = none := I.ok.hd hc
    have hel : e < s.heap.objs.size := Heap.lt_size he
    have hil : it < s.heap.objs.size := by obtain ⟨_, q, _⟩ := itr_obj hit; exact Heap.lt_size q
    have hai : a ≠ it := sq_ne_itr p hit
    have hea : e ≠ a := fun z => by
      subst z
      obtain ⟨o, e1, c1⟩ := sq_obj p
      have he' : s.heap.get? e = _ := he
      rw [e1] at he'
      cases he'
      rcases c1 with c1 | c1 <;> simp at c1
    refine wpAny_pyNext_enum_itemC (draws k hh it a hai its.toArray) he ⟨hit, p⟩ (by
      have := (List.getElem?_eq_some_iff.mp hu).1
      simpa using this) hne (by simp [hne, hea]) fun x' h' tk hPx ho hst hT hsz hk => ?_
    have ex : x' = u := by
      have h1 : its.toArray[i]? = some x' := hPx
      have h2 : its.toArray[i]? = some u := by simpa using hu
      rw [h1] at h2
      exact Option.some.inj h2
    subst ex
    refine ⟨_, rfl, wpAny_letOwnedTupleGo_enum (s := { s with heap := h', toks := tk + 1 }) ho fun h'' he' sb => ?_⟩
    have hT2 : h''.get? s.heap.objs.size = some { cls := .type "tuple", data := .seq #[.int i tk, x'] } := (sb.2 _ (Nat.ne_of_gt hel)).trans hT
    have new : ObjOk X.prog X.w (upd H s.heap.objs.size (.tup [.int (i : Nat), x])) h'' s.heap.objs.size (.tup [.int (i : Nat), x]) :=
      ⟨by show 2 ≤ sizeLine; decide, [.int i tk, x'], .cons ⟨_, rfl⟩ (.cons ru .nil), ⟨_, hT2, rfl, _, rfl⟩⟩
    have I1 : Inv X pins σ (upd H s.heap.objs.size (.tup [.int (i : Nat), x])) { s with heap := h'', toks := tk + 1 } :=
      I.turnedNew (ch := [e, it]) (fun b ob hb q => (sb.2 b (fun z => hb (by simp [z]))).trans (hk b ob (fun z => hb (by simp [z])) (fun z => hb (by simp [z])) q)) hf (Nat.le_refl _) new
    refine ⟨.ref s.heap.objs.size, _, I1, rfl, ⟨_, x, rfl, I.hok.fresh (Nat.le_refl _), rfl, fun ys hy => by rw [sq_inj I hy hq]; exact hx⟩, ⟨⟨x', ?_⟩, itr_at hst.1 fun o q => (sb.2 it (Ne.symm hne)).trans q, hne⟩, fun b hb => ?_⟩
    · have e1 : ((i + 1 : Nat) : Int) = (i : Int) + 1 := by omega
      rw [e1]; exact he'
    · have hb' : b < s.heap.objs.size := by
        have e' : b = e ∨ b = it := by simpa using hb
        rcases e' with z | z
        · rw [z]; exact hel
        · rw [z]; exact hil
      rw [upd_ne (Nat.ne_of_lt hb')]
      exact (hf b hb).1
  done := by
    intro X hP hw hK hc i pins s σ H E I hf st hg
    subst hP hw hK
    obtain ⟨⟨old, he⟩, hit, hne⟩ := st
    obtain ⟨xs, hq, hx⟩ := hg
    obtain ⟨its, rv, p, _⟩ := sq_of I hq
    have hh : X.A.in1.handled = none := I.ok.hd hc
    obtain ⟨f0, f1, f2, f3, f4, f5⟩ := hf it (by simp)
    have hl := rv.length
    exact wpAny_pyNext_enum_endD (drawsEnd k hh it a its.toArray i (by simp; omega)) he ⟨rfl, hit, p⟩ fun h' eb => ⟨rfl, I.turned (t' := s.toks) (fun b o hb q => eb b o hb q) f0 f1 f3 f4 f5⟩
  self := fun A i s Q E st h => let ⟨⟨_, he⟩, _⟩ := st; wpAny_pyIter_enum he h

set_option maxHeartbeats 1000000 in
theorem meets_enumerate_new1 {v : Value} {o : Obj} {H : Heap → Prop} (B : Begins v o H) :
    Meets (Builtin.«enumerate.__new__» ⟨[.type "enumerate", v], []⟩) (fun _ R s => H s.heap ∧
      R (.ok (.ret (.ref (s.heap.push o).objs.size))) { s with heap := (s.heap.push o).push { cls := .type "enumerate", data := .fields #[.none, .bool false, .ref s.heap.objs.size, rawInt 0, .none, .none] } }) :=
  .of_wp fun prog w A R s h => by
    obtain ⟨hp, g, d, tk, os⟩ := s; obtain ⟨h1, h⟩ := h
    have hsub := sub_enumerate
    have q1 : ∀ {A' : Around} {E : Value → Shared → Prop} {Q : Value → Shared → Prop}, Q (.ref hp.objs.size) ⟨hp.push o, g, d, tk, os⟩ → wpAny (model prog w) A' (pyIter v) Q E ⟨hp, g, d, tk, os⟩ :=
      fun q => B.iter prog w _ _ ⟨hp, g, d, tk, os⟩ _ h1 q
    wp_walk using q1
    refine wpAny_stack_any fun st => wpAny_pure ?_
    split
    · rename_i c _ _ _ _ _
      cases (c == Value.type "enumerate")
      · wp_walk using q1
        exact ⟨_, rfl, h⟩
      · wp_walk using q1
        exact ⟨_, rfl, h⟩
    · wp_walk using q1
      exact ⟨_, rfl, h⟩
theorem call_enumerateB {prog : Program} {w : World} {A : Around} {E : Value → Shared → Prop} {s : Shared} {v : Value} {o : Obj} {H : Heap → Prop} {Q : Value → Shared → Prop} (B : Begins v o H) (h1 : H s.heap)
    (h : ∀ h', IsEnum h' (s.heap.objs.size + 1) s.heap.objs.size 0 .none → h'.get? s.heap.objs.size = some o → h'.objs.size = s.heap.objs.size + 2 →
      (∀ b o, s.heap.get? b = some o → h'.get? b = some o) → Q (.ref (s.heap.objs.size + 1)) { s with heap := h' }) :
    wpAny (model prog w) A (call (.type "enumerate") [v]) Q E s := by
  refine callType_new F.called_enumerate (by decide) (F.typeCall_enumerate_1 _) (F.newCall_enumerate_1 _) (fun obj => F.args_object_init_2 obj _) F.entry_enumerate_new
    (meets_enumerate_new1 B) ⟨h1, ?_⟩
  have hz : (s.heap.push o).objs.size = s.heap.objs.size + 1 := Heap.size_push ..
  show _ ∧ _
  rw [hz]
  have he : IsEnum ((s.heap.push o).push { cls := .type "enumerate", data := .fields #[.none, .bool false, .ref s.heap.objs.size, rawInt 0, .none, .none] }) (s.heap.objs.size + 1) s.heap.objs.size 0 .none := by
    have := Heap.get?_push_size (s.heap.push o) (o := { cls := .type "enumerate", data := .fields #[.none, .bool false, .ref s.heap.objs.size, rawInt 0, .none, .none] }) rfl
    rw [hz] at this; exact this
  refine ⟨⟨_, he, rfl⟩, h _ he (Heap.get?_push_of_some _ (Heap.get?_push_size _ B.free)) (by rw [Heap.size_push, hz]) fun b o x => Heap.get?_push_of_some _ (Heap.get?_push_of_some _ x)⟩
def iEnumK (K : PySem.W.Frag) (ta : TA) : TI := fun σ H R => ta σ H fun vs H1 => ∃ k a xs, vs = [.ref a] ∧ SqK k K H1 a xs ∧ R (IteK k K a) H1
theorem pi_enumK {X : Cx} {e : Expr} {ta : TA} {p pos tpos : Pos} {elts : List Expr} {kk : Nat} (hg : Gl X "enumerate") (hm : X.mg "enumerate" = none) (ha : PA X [e] ta) (hs : starEach [e] X.env = [(false, eval e X.env)] := by rfl) :
    PI X (.Tuple elts kk tpos) (.Call (.Name "enumerate" p) [e] [] pos) (iEnumK X.K ta) := by
  refine ⟨fun pins s σ H R I h => ?_⟩
  refine Call_ (ld_blt I hg hm boot_enumerate (PyProof.Rows.callWith_type1 (thn (ha.run pos pins s σ H _ I h) fun us s1 ⟨vs, H1, I1, r1, q1⟩ => ?_) hs rfl))
  obtain ⟨k, a, xs, ex, hq, q⟩ := q1
  subst ex
  cases r1 with
  | cons r rr =>
    cases rr
    cases r
    obtain ⟨its, rv, p', _⟩ := sq_of I1 hq
    refine call_enumerateB (begins k a its.toArray) p' fun h' he hit hsz hk => wpAny_pyIter_enum he ?_
    have I2 : Inv X pins σ H1 { s1 with heap := h' } := I1.kept (t' := s1.toks) hk
    refine ⟨s1.heap.objs.size + 1, [s1.heap.objs.size + 1, s1.heap.objs.size], _, _, H1, rfl, I2, turn_enumK k a (s1.heap.objs.size + 1) s1.heap.objs.size, ⟨⟨.none, he⟩, itr_new hit, Nat.succ_ne_self _⟩, fun b hb => ?_, q⟩
    have e' : b = s1.heap.objs.size + 1 ∨ b = s1.heap.objs.size := by simpa using hb
    have hle : s1.heap.objs.size ≤ b := by
      rcases e' with z | z
      · rw [z]; exact Nat.le_add_right _ _
      · rw [z]; exact Nat.le_refl _
    exact I1.fpOk hle (I1.hok.fresh hle)

/-! ### zip -/
def ItzK (k1 k2 : Bool) (K : PySem.W.Frag) (a b : Addr) : It :=
  ⟨fun i H => ∃ (xs ys : List V) (x y : V), SqK k1 K H a xs ∧ SqK k2 K H b ys ∧ xs[i]? = some x ∧ ys[i]? = some y,
    fun i H v H' => ∃ T x y, v = .ref T ∧ H T = none ∧ H' = upd H T (.tup [x, y]) ∧ (∀ xs, SqK k1 K H a xs → xs[i]? = some x) ∧ ∀ ys, SqK k2 K H b ys → ys[i]? = some y,
    fun i H => ∃ xs ys : List V, SqK k1 K H a xs ∧ SqK k2 K H b ys ∧ (xs.length ≤ i ∨ ys.length ≤ i)⟩
theorem turn_zipK {P : Program} {w : World} {K : PySem.W.Frag} {elts : List Expr} {kk : Nat} {tpos : Pos} {a b z TI TO i1 i2 : Addr} (k1 k2 : Bool) (S : ZipSep2 z TI TO i1 i2 [i1, a] [i2, b]) :
    Turn P w K (.Tuple elts kk tpos) (ItzK k1 k2 K a b) [z, TI, TO, i1, i2] z (fun i h => IsZip h z TI TO .none ∧ IsTupOf2 h TI (.ref i1) (.ref i2) ∧ (∃ x y, IsTupOf2 h TO x y) ∧ IsItr k1 h i1 a i ∧ IsItr k2 h i2 b i) where
  mem := by simp
  obj := fun i h st c hc => by
    obtain ⟨hz, hTI, ⟨x, y, hTO⟩, h1, h2⟩ := st
    obtain ⟨o1, e1, d1, _⟩ := itr_obj h1
    obtain ⟨o2, e2, d2, _⟩ := itr_obj h2
    have e' : c = z ∨ c = TI ∨ c = TO ∨ c = i1 ∨ c = i2 := by simpa using hc
    rcases e' with q | q | q | q | q
    · rw [q]; exact ⟨_, hz, fun v q => nomatch q⟩
    · rw [q]; exact ⟨_, hTI, fun v q => nomatch q⟩
    · rw [q]; exact ⟨_, hTO, fun v q => nomatch q⟩
    · rw [q]; exact ⟨o1, e1, d1⟩
    · rw [q]; exact ⟨o2, e2, d2⟩
  keep := fun i h h' st k => by
    obtain ⟨hz, hTI, ⟨x, y, hTO⟩, h1, h2⟩ := st
    exact ⟨k z (by simp) _ hz, k TI (by simp) _ hTI, ⟨x, y, k TO (by simp) _ hTO⟩, itr_at h1 fun o q => k i1 (by simp) o q, itr_at h2 fun o q => k i2 (by simp) o q⟩
  item := by
    intro X hP hw hK hc i pins s σ H E I hf st hg
    subst hP hw hK
    obtain ⟨hz, hTI, ⟨x0, y0, hTO⟩, h1, h2⟩ := st
    obtain ⟨xs, ys, x, y, hqx, hqy, hx, hy⟩ := hg
    obtain ⟨its, rv, p, _⟩ := sq_of I hqx
    obtain ⟨its2, rv2, p2, _⟩ := sq_of I hqy
    obtain ⟨u, hu, ru⟩ := rv.get hx
    obtain ⟨u2, hu2, ru2⟩ := rv2.get hy
    have hh : X.A.in1.handled = none := I.ok.hd hc
    have hzl : z < s.heap.objs.size := Heap.lt_size hz
    have hlt : i < its.toArray.size := by
      have := (List.getElem?_eq_some_iff.mp hu).1
      simpa using this
    have hlt2 : i < its2.toArray.size := by
      have := (List.getElem?_eq_some_iff.mp hu2).1
      simpa using this
    refine wpAny_pyNext_zipD2_item S (draws k1 hh i1 a (sq_ne_itr p h1) its.toArray) (draws k2 hh i2 b (sq_ne_itr p2 h2) its2.toArray) hz hTI hTO ⟨h1, p⟩ ⟨h2, p2⟩ hlt hlt2 fun x1 x2 h' tk P1 P2 z' TO' hs1 hs2 hT hsz hk => ?_
    have ex : x1 = u := by
      have q1 : its.toArray[i]? = some x1 := P1
      have q2 : its.toArray[i]? = some u := by simpa using hu
      rw [q1] at q2
      exact Option.some.inj q2
    have ey : x2 = u2 := by
      have q1 : its2.toArray[i]? = some x2 := P2
      have q2 : its2.toArray[i]? = some u2 := by simpa using hu2
      rw [q1] at q2
      exact Option.some.inj q2
    subst ex ey
    refine ⟨_, rfl, wpAny_letOwnedTupleGo_zip (s := { s with heap := h', toks := tk }) z' fun h'' z'' sb => ?_⟩
    have hT2 : h''.get? s.heap.objs.size = some { cls := .type "tuple", data := .seq #[x1, x2] } := (sb.2 _ (Nat.ne_of_gt hzl)).trans hT
    have new : ObjOk X.prog X.w (upd H s.heap.objs.size (.tup [x, y])) h'' s.heap.objs.size (.tup [x, y]) :=
      ⟨by show 2 ≤ sizeLine; decide, [x1, x2], .cons ru (.cons ru2 .nil), ⟨_, hT2, rfl, _, rfl⟩⟩
    have I1 : Inv X pins σ (upd H s.heap.objs.size (.tup [x, y])) { s with heap := h'', toks := tk } :=
      I.turnedNew (ch := [z, TI, TO, i1, i2]) (fun c o hb q => (sb.2 c (fun q' => hb (by simp [q']))).trans (hk c o (fun q' => hb (by simp [q'])) (fun q' => hb (by simp [q'])) (fun q' => hb (by simp [q'])) (fun q' => hb (by simp [q'])) q)) hf (Nat.le_refl _) new
    refine ⟨.ref s.heap.objs.size, _, I1, rfl, ⟨_, x, y, rfl, I.hok.fresh (Nat.le_refl _), rfl, fun l hl => by rw [sq_inj I hl hqx]; exact hx, fun l hl => by rw [sq_inj I hl hqy]; exact hy⟩, ⟨z'', ?_, ⟨x1, x2, ?_⟩, ?_, ?_⟩, fun c hcm => ?_⟩
    · exact (sb.2 _ S.TIz).trans (hk _ _ S.TIz S.TITO S.TIi1 S.TIi2 hTI)
    · exact (sb.2 _ S.TOz).trans TO'
    · exact itr_at hs1.1 fun o q => (sb.2 _ S.zi1.symm).trans q
    · exact itr_at hs2.1 fun o q => (sb.2 _ S.zi2.symm).trans q
    · have hlt : c < s.heap.objs.size := by
        have e' : c = z ∨ c = TI ∨ c = TO ∨ c = i1 ∨ c = i2 := by simpa using hcm
        rcases e' with q | q | q | q | q
        · rw [q]; exact hzl
        · rw [q]; exact Heap.lt_size hTI
        · rw [q]; exact Heap.lt_size hTO
        · rw [q]; obtain ⟨_, e1, _⟩ := itr_obj h1; exact Heap.lt_size e1
        · rw [q]; obtain ⟨_, e2, _⟩ := itr_obj h2; exact Heap.lt_size e2
      rw [upd_ne (Nat.ne_of_lt hlt)]
      exact (hf c hcm).1
  done := by
    intro X hP hw hK hc i pins s σ H E I hf st hg
    subst hP hw hK
    obtain ⟨hz, hTI, ⟨x0, y0, hTO⟩, h1, h2⟩ := st
    obtain ⟨xs, ys, hqx, hqy, hend⟩ := hg
    obtain ⟨its, rv, p, _⟩ := sq_of I hqx
    obtain ⟨its2, rv2, p2, _⟩ := sq_of I hqy
    have hh : X.A.in1.handled = none := I.ok.hd hc
    have l1 := rv.length
    have l2 := rv2.length
    obtain ⟨n1, P1, St1, D1, s1, le1, en1⟩ := draws_at (prog := X.prog) (w := X.w) k1 hh i1 a (sq_ne_itr p h1) its.toArray i
    obtain ⟨n2, P2, St2, D2, s2, le2, en2⟩ := draws_at (prog := X.prog) (w := X.w) k2 hh i2 b (sq_ne_itr p2 h2) its2.toArray i
    have he : i = n1 ∨ i = n2 := by
      rcases hend with q | q
      · exact .inl (en1 (by simp; omega))
      · exact .inr (en2 (by simp; omega))
    exact wpAny_pyNext_zipD2_end S D1 D2 hz hTI hTO (s1 _ h1 p) (s2 _ h2 p2) le1 le2 he fun h' tk hk => ⟨rfl, I.turnedL (t' := tk) (ch := [z, TI, TO, i1, i2]) (fun c o hb q =>
      hk c o (fun q' => hb (by simp [q'])) (fun q' => hb (by simp [q'])) (fun q' => hb (by simp [q'])) (fun q' => hb (by simp [q'])) q) hf⟩
  self := fun A i s Q E st h => wpAny_pyIter_zip st.1 h
def iZipK (K : PySem.W.Frag) (ta : TA) : TI := fun σ H R => ta σ H fun vs H1 => ∃ k1 k2 a b xs ys, vs = [.ref a, .ref b] ∧ SqK k1 K H1 a xs ∧ SqK k2 K H1 b ys ∧ R (ItzK k1 k2 K a b) H1
theorem pi_zipK {X : Cx} {e e2 : Expr} {ta : TA} {p pos tpos : Pos} {elts : List Expr} {kk : Nat} (hg : Gl X "zip") (hm : X.mg "zip" = none) (ha : PA X [e, e2] ta)
    (hs : starEach [e, e2] X.env = (false, eval e X.env) :: starEach [e2] X.env := by rfl) (hpl : (backTo pos (starEach [e2] X.env)).any (·.1) = false := by rfl) :
    PI X (.Tuple elts kk tpos) (.Call (.Name "zip" p) [e, e2] [] pos) (iZipK X.K ta) := by
  refine ⟨fun pins s σ H R I h => ?_⟩
  refine Call_ (ld_blt I hg hm PyProof.Rows.boot_zip (PyProof.Rows.callWith_type1 (thn (ha.run pos pins s σ H _ I h) fun us s1 ⟨vs, H1, I1, r1, q1⟩ => ?_) hs hpl))
  obtain ⟨k1, k2, a, b, xs, ys, ex, hqx, hqy, q⟩ := q1
  subst ex
  cases r1 with
  | cons r rr =>
    cases rr with
    | cons r' rr =>
      cases rr
      cases r
      cases r'
      obtain ⟨its, rv, p1, la⟩ := sq_of I1 hqx
      obtain ⟨its2, rv2, p2, lb⟩ := sq_of I1 hqy
      refine zip_begins2 (begins k1 a its.toArray) (begins k2 b its2.toArray) p1 p2 fun h' hz hTI hTO h1 h2 hsz hk => wpAny_pyIter_zip hz ?_
      have I2 : Inv X pins σ H1 { s1 with heap := h' } := I1.kept (t' := s1.toks) hk
      refine ⟨s1.heap.objs.size + 4, [s1.heap.objs.size + 4, s1.heap.objs.size + 2, s1.heap.objs.size + 3, s1.heap.objs.size, s1.heap.objs.size + 1], _, _, H1, rfl, I2, turn_zipK k1 k2 (zip_sep2 (fp1 := [a]) (fp2 := [b]) (by simpa using la) (by simpa using lb)), ⟨hz, hTI, ⟨_, _, hTO⟩, itr_new h1, itr_new h2⟩, fun c hcm => ?_, q⟩
      have e' : c = s1.heap.objs.size + 4 ∨ c = s1.heap.objs.size + 2 ∨ c = s1.heap.objs.size + 3 ∨ c = s1.heap.objs.size ∨ c = s1.heap.objs.size + 1 := by simpa using hcm
      have hle : s1.heap.objs.size ≤ c := by
        rcases e' with z | z | z | z | z
        · rw [z]; exact Nat.le_add_right _ _
        · rw [z]; exact Nat.le_add_right _ _
        · rw [z]; exact Nat.le_add_right _ _
        · rw [z]; exact Nat.le_refl _
        · rw [z]; exact Nat.le_add_right _ _
      exact I1.fpOk hle (I1.hok.fresh hle)

/-! ### over data -/
/-- (i, x) for each x, counting from i -/
@[simp] def enD : Nat → List D → List D
  | _, [] => []
  | i, x :: xs => .tup [.int (i : Nat), x] :: enD (i + 1) xs
@[simp] def zipD : List D → List D → List D
  | x :: xs, y :: ys => .tup [x, y] :: zipD xs ys
  | _, _ => []
theorem enD_length : ∀ (j : Nat) (xs : List D), (enD j xs).length = xs.length
  | _, [] => rfl
  | j, x :: xs => congrArg (· + 1) (enD_length (j + 1) xs)
theorem enD_get : ∀ (j : Nat) (xs : List D) (i : Nat), (enD j xs)[i]? = xs[i]?.map fun x => .tup [.int ((j + i : Nat) : Int), x]
  | _, [], _ => rfl
  | j, x :: xs, 0 => rfl
  | j, x :: xs, i + 1 => by
    have := enD_get (j + 1) xs i
    simp only [enD, List.getElem?_cons_succ, this]
    rw [show j + 1 + i = j + (i + 1) by omega]
theorem zipD_length : ∀ (xs ys : List D), (zipD xs ys).length = min xs.length ys.length
  | [], _ => by simp
  | _ :: _, [] => by simp
  | x :: xs, y :: ys => by simp [zipD_length xs ys]
theorem zipD_get : ∀ (xs ys : List D) (i : Nat) (x y : D), xs[i]? = some x → ys[i]? = some y → (zipD xs ys)[i]? = some (.tup [x, y])
  | [], _, _, _, _, h, _ => by simp at h
  | _ :: _, [], _, _, _, _, h => by simp at h
  | x :: xs, y :: ys, 0, _, _, h, h' => by
    simp at h h'
    subst h h'
    rfl
  | x :: xs, y :: ys, i + 1, _, _, h, h' => by
    simp only [zipD, List.getElem?_cons_succ]
    exact zipD_get xs ys i _ _ (by simpa using h) (by simpa using h')
section
variable {K : PySem.W.Frag} {mg : Str → Option Value} {J : GJ} {pr : Hp}
theorem itOk_enum {k : Bool} {a : Addr} {F0 : Hp} {vs : List V} {xs : List D} (h : SqK k K F0 a vs) (ia : IsA K mg F0 vs xs) : ItOk K mg J pr (IteK k K a) F0 (enD 0 xs) := by
  refine ⟨fun i F H s1 s2 hi => ?_, fun i F H x H' s1 st hi hy => ?_, fun i F H s1 s2 hi => ?_⟩
  · rw [enD_length] at hi
    obtain ⟨v, hv, _⟩ := ia.get (List.getElem?_eq_getElem hi)
    exact ⟨vs, v, sq_same s2 (sq_same s1 h), hv⟩
  · rw [enD_length] at hi
    obtain ⟨v, hv, iv⟩ := ia.get (List.getElem?_eq_getElem hi)
    obtain ⟨T, y, rfl, n, rfl, f⟩ := hy
    have e := f vs (sq_same st.sub (sq_same s1 h))
    rw [hv] at e
    cases e
    have t := st.laid (o := .tup [.int (i : Nat), v]) n nt_tup
    refine ⟨_, .tup [.int (i : Nat), xs[i]], ?_, t, .tup (.inl (.inl upd_same)) (.cons (.int _) (.cons ((iv.mono s1).mono t.ff) .nil))⟩
    rw [enD_get, List.getElem?_eq_getElem hi, Nat.zero_add]
    rfl
  · rw [enD_length] at hi
    exact ⟨vs, sq_same s2 (sq_same s1 h), by rw [ia.length]; exact hi⟩
theorem itOk_zip {k1 k2 : Bool} {a b : Addr} {F0 : Hp} {vs ws : List V} {xs ys : List D} (h : SqK k1 K F0 a vs) (ia : IsA K mg F0 vs xs) (h2 : SqK k2 K F0 b ws) (ib : IsA K mg F0 ws ys) : ItOk K mg J pr (ItzK k1 k2 K a b) F0 (zipD xs ys) := by
  refine ⟨fun i F H s1 s2 hi => ?_, fun i F H x H' s1 st hi hy => ?_, fun i F H s1 s2 hi => ?_⟩
  · rw [zipD_length] at hi
    obtain ⟨v, hv, _⟩ := ia.get (List.getElem?_eq_getElem (Nat.lt_of_lt_of_le hi (Nat.min_le_left _ _)))
    obtain ⟨u, hu, _⟩ := ib.get (List.getElem?_eq_getElem (Nat.lt_of_lt_of_le hi (Nat.min_le_right _ _)))
    exact ⟨vs, ws, v, u, sq_same s2 (sq_same s1 h), sq_same s2 (sq_same s1 h2), hv, hu⟩
  · rw [zipD_length] at hi
    have hx := List.getElem?_eq_getElem (Nat.lt_of_lt_of_le hi (Nat.min_le_left _ _))
    have hy' := List.getElem?_eq_getElem (Nat.lt_of_lt_of_le hi (Nat.min_le_right _ _))
    obtain ⟨v, hv, iv⟩ := ia.get hx
    obtain ⟨u, hu, iu⟩ := ib.get hy'
    obtain ⟨T, y, z, rfl, n, rfl, f, g⟩ := hy
    have e := f vs (sq_same st.sub (sq_same s1 h))
    rw [hv] at e
    cases e
    have e := g ws (sq_same st.sub (sq_same s1 h2))
    rw [hu] at e
    cases e
    have t := st.laid (o := .tup [v, u]) n nt_tup
    exact ⟨_, _, zipD_get xs ys i _ _ hx hy', t, .tup (.inl (.inl upd_same)) (.cons ((iv.mono s1).mono t.ff) (.cons ((iu.mono s1).mono t.ff) .nil))⟩
  · rw [zipD_length] at hi
    refine ⟨vs, ws, sq_same s2 (sq_same s1 h), sq_same s2 (sq_same s1 h2), ?_⟩
    rw [ia.length, ib.length]
    omega
end
/-- the items of a list or a tuple -/
@[simp] def sqD : D → Option (List D)
  | .lst xs => some xs
  | .tup xs => some xs
  | _ => none
theorem sqD_is {K : PySem.W.Frag} {mg : Str → Option Value} {F : Hp} {v : V} {d : D} {xs : List D} (h : Is K mg F v d) (e : sqD d = some xs) : ∃ k a vs, v = .ref a ∧ SqK k K F a vs ∧ IsA K mg F vs xs := by
  cases d with
  | lst ys =>
    cases e
    obtain ⟨p, vs, rfl, h1, ia⟩ := h.lst_inv
    exact ⟨false, p, vs, rfl, SqL.of h1, ia⟩
  | tup ys =>
    cases e
    obtain ⟨p, vs, rfl, h1, ia⟩ := h.tup_inv
    exact ⟨true, p, vs, rfl, h1, ia⟩
  | _ => cases e
@[simp] def wEn (w : WA) : WI := fun env r => w env fun as e1 => ∃ d xs, reals as = some [d] ∧ sqD d = some xs ∧ r (enD 0 xs) e1
@[simp] def wZp (w : WA) : WI := fun env r => w env fun as e1 => ∃ d d2 xs ys, reals as = some [d, d2] ∧ sqD d = some xs ∧ sqD d2 = some ys ∧ r (zipD xs ys) e1
section
variable {X : Cx} {J : GJ} {e a b : Expr} {w : WA} {p pos tpos : Pos} {elts : List Expr} {kk : Nat}
theorem di_enum (hg : Gl X "enumerate") (hm : X.mg "enumerate" = none) (ha : DA X J [a] w) (hs : starEach [a] X.env = [(false, eval a X.env)] := by rfl) :
    DI X J (.Tuple elts kk tpos) (.Call (.Name "enumerate" p) [a] [] pos) (wEn w) := by
  refine ⟨⟨fun pins s σ H R I ⟨pr, env, F, r, R0, hw, k⟩ => (pi_enumK hg hm (ha.run pr) hs).run pins s σ H R I ⟨env, F, _, R0, hw, fun as e1 vs F1 H1 R1 s1 i1 ⟨d, xs, hj, h1, h2⟩ => ?_⟩⟩⟩
  obtain ⟨v, rfl, iv⟩ := (i1.real hj).one_inv
  obtain ⟨kd, a, vs, rfl, hq, ia⟩ := sqD_is iv h1
  exact ⟨kd, a, vs, rfl, sq_same R1.st.sub hq, k _ _ e1 F1 H1 R1 s1 (fun _ => itOk_enum hq ia) h2⟩
theorem di_zip (hg : Gl X "zip") (hm : X.mg "zip" = none) (ha : DA X J [a, b] w) (hs : starEach [a, b] X.env = (false, eval a X.env) :: starEach [b] X.env := by rfl) (hpl : (backTo pos (starEach [b] X.env)).any (·.1) = false := by rfl) :
    DI X J (.Tuple elts kk tpos) (.Call (.Name "zip" p) [a, b] [] pos) (wZp w) := by
  refine ⟨⟨fun pins s σ H R I ⟨pr, env, F, r, R0, hw, k⟩ => (pi_zipK hg hm (ha.run pr) hs hpl).run pins s σ H R I ⟨env, F, _, R0, hw, fun as e1 vs F1 H1 R1 s1 i1 ⟨d, d2, xs, ys, hj, h1, h1', h2⟩ => ?_⟩⟩⟩
  obtain ⟨v, v2, rfl, iv, iv2⟩ := (i1.real hj).two_inv
  obtain ⟨kd, a, vs, rfl, hq, ia⟩ := sqD_is iv h1
  obtain ⟨kd2, b, ws, rfl, hq2, ib⟩ := sqD_is iv2 h1'
  exact ⟨kd, kd2, a, b, vs, ws, rfl, sq_same R1.st.sub hq, sq_same R1.st.sub hq2, k _ _ e1 F1 H1 R1 s1 (fun _ => itOk_zip hq ia hq2 ib) h2⟩
end
end DL

/-! DL11: sums of tuples, tuples repeated, is None, own[i] += e, own.index, own lists by repeating, dicts written out and asked, tuples of a module. -/
namespace DL
open PySem PySem.Spec PyProof.Rows L2

/-! ### sum -/
@[simp] def oSumA : Prim
  | [.lst xs], q => ∃ ns : List Int, xs = ns.map D.int ∧ q (.int ns.sum)
  | [.tup xs], q => ∃ ns : List Int, xs = ns.map D.int ∧ q (.int ns.sum)
  | _, _ => False
section
variable {X : Cx} {J : GJ}
theorem sum_tupR {prog : Program} {w : World} {A : Around} {E : Value → Shared → Prop} {s : Shared} {l : Addr} {its : List Value} {ns : List Int} {Q : Value → Shared → Prop} (hh : A.handled = none) (hl : s.heap.IsTuple l its.toArray) (hi : IntsAre its ns)
    (h : ∀ h' tk t', (∀ b o, s.heap.get? b = some o → h'.get? b = some o) → Q (.int ns.sum t') { s with heap := h', toks := tk }) : wpAny (model prog w) A (call (.builtin "sum") [.ref l]) Q E s := by
  obtain ⟨xs, e⟩ := hi.allInts.items
  have hn : numsOf (intItems xs).toList = ns := by rw [← e]; exact hi.numsOf
  rw [nums_intItems] at hn
  rw [e] at hl
  refine PySem.W.ktm_sumG hh hl fun h' tk t' hk => ?_
  have := h h' tk t' hk
  rw [preSum_eq, List.take_of_length_le (by simp), hn]; exact this
theorem cd_sumA (hc : X.calm = true) : CallD X J (.builtin "sum") oSumA := by
  intro pins s σ H xs us Q I r ⟨pr, F, ds, q, st, ia, ho, k⟩
  unfold oSumA at ho
  split at ho
  · obtain ⟨a, e, ha⟩ := ia.one_inv
    cases e
    obtain ⟨p1, vs, rfl, h1, a1⟩ := ha.lst_inv st.sub
    obtain ⟨bs, rfl, ho⟩ := ho
    rw [a1.ints] at h1
    exact cr_sum hc pins s σ H _ us Q I r ⟨_, bs, rfl, SqL.of h1, ans st k (.int _) ho⟩
  · obtain ⟨a, e, ha⟩ := ia.one_inv
    cases e
    obtain ⟨p1, vs, rfl, h1, a1⟩ := ha.tup_inv
    obtain ⟨bs, rfl, ho⟩ := ho
    rw [a1.ints] at h1
    obtain ⟨its, rv, p, _⟩ := I.tuple (same_seqT st.sub h1)
    obtain ⟨u, rfl, ru⟩ := vals1 r
    obtain rfl : u = Value.ref p1 := ru
    exact sum_tupR (I.ok.hd hc) p rv.ints fun h' tk t' hk => ⟨.int _, H, I.kept hk, ⟨_, rfl⟩, ans st k (.int _) ho⟩
  · exact ho.elim
end

/-! ### a tuple repeated -/
theorem tuple_mul1 (l : Addr) (items : Array Value) (n : Nat) (dd : Option Addr) (sl : Array (Option Value)) (u : Tok) :
    Meets (Builtin.«tuple.__mul__» ⟨[.ref l, .int 1 u], []⟩) (fun _ R s => s.heap.get? l = some { cls := .type "tuple", dict := dd, data := .seq items n, slots := sl } ∧
      R (.ok (.ret (Value.ref l))) s) :=
  .of_wp fun prog w A R s h => by
    obtain ⟨hp, g, d, tk, os⟩ := s
    obtain ⟨hl, h⟩ := h
    have f1 := AutoSeq1.idx_int
    have c0 : (decide ((1 : Int) < -(2 ^ 63)) || decide ((1 : Int) ≥ 2 ^ 63)) = false := by decide
    have c1 : (items.isEmpty || (1 : Int) == 1) = true := by simp
    wp_walk using wpAny_loadPart' hl
    repeat (first
      | (refine wpAny_ite_false (decide_eq_false (by rw [c0]; exact Bool.false_ne_true)) ?_; wp_walk using wpAny_loadPart' hl)
      | (refine wpAny_ite_true (decide_eq_true c1) ?_; wp_walk using wpAny_loadPart' hl))
    exact ⟨_, rfl, h⟩
theorem op_repT1 {X : Cx} : OpR X (binaryOp .Mult) (fun x y H Q => ∃ l xs, x = .ref l ∧ y = .int 1 ∧ SqT X.K H l xs ∧ Q (.ref l) H) := by
  intro pins s σ H x y v u Q I rx ry h
  obtain ⟨l, xs, rfl, rfl, hT, q⟩ := h
  cases rx
  obtain ⟨t, rfl⟩ := ry
  obtain ⟨its, r, ⟨⟨cls, dd, data, sl⟩, ho, hc, n, hd⟩, hs⟩ := I.tuple hT
  simp only at hc hd
  subst hc hd
  exact wpAny_binaryOp_repeat_ref (T := "tuple") (U := "int") (by decide) ⟨_, ho, rfl⟩ (fun s' => typeIs_int s' 1 t) noFill_tuple_mul F.fills_int_mul F.slot_int_rmul repeat_tuple F.slot_int_index.lookup
    (call_meets F.slot_int_rmul (typeIs_int s 1 t) F.entry_int_rmul (F.args_int_rmul_2 _ _) (int_rmul_tuple 1 t l its.toArray n dd sl)
      ⟨ho, rfl, ⟨_, ho, rfl⟩, call_meets F.slot_tuple_mul ⟨_, ho, rfl⟩ F.entry_tuple_mul (F.args_tuple_mul_2 _ _) (tuple_mul1 l its.toArray n dd sl t) ⟨ho, .ref l, H, I, rfl, q⟩⟩)
@[simp] def oMulA : Prim
  | [.int i, .int j], q => CMul i j ∧ q (.int (i * j))
  | [.lst xs, .int k], q => -(2 ^ 63) ≤ k ∧ k < 2 ^ 63 ∧ xs.length * k.toNat ≤ sizeLine ∧ q (.lst (List.replicate k.toNat xs).flatten)
  | [.tup xs, .int k], q => 1 ≤ k ∧ k ≤ 1000 ∧ 0 < xs.length ∧ xs.length ≤ 1000 ∧ q (.tup (List.replicate k.toNat xs).flatten)
  | _, _ => False
theorem od_mulA {X : Cx} {J : GJ} : OpD X J (binaryOp .Mult) oMulA := by
  intro pins s σ H x y v u Q I rx ry ⟨pr, F, ds, q, st, ia, ho, k⟩
  unfold oMulA at ho
  split at ho
  · obtain ⟨a, b, e, ha, hb⟩ := ia.two_inv
    cases e
    cases ha.int_inv
    cases hb.int_inv
    exact op_mul pins s σ H _ _ v u Q I rx ry ⟨_, _, rfl, rfl, ho.1, ans st k (.int _) ho.2⟩
  · obtain ⟨a, b, e, ha, hb⟩ := ia.two_inv
    cases e
    cases hb.int_inv
    obtain ⟨p1, vs, rfl, h1, a1⟩ := ha.lst_inv st.sub
    exact op_rep pins s σ H _ _ v u Q I rx ry ⟨_, _, vs, rfl, rfl, h1, ho.1, ho.2.1, by rw [a1.length]; exact ho.2.2.1, fun p hp => ansNew st k hp (is_lst (isA_rep a1 _)) ho.2.2.2⟩
  · rename_i xs kk
    obtain ⟨a, b, e, ha, hb⟩ := ia.two_inv
    cases e
    cases hb.int_inv
    obtain ⟨p1, vs, rfl, h1, a1⟩ := ha.tup_inv
    obtain ⟨k1, k2, l1, l2, ho⟩ := ho
    by_cases hk : kk = 1
    · subst hk
      refine op_repT1 pins s σ H _ _ v u Q I rx ry ⟨_, vs, rfl, rfl, same_seqT st.sub h1, ans st k (.tup h1 ?_) ho⟩
      simpa using a1
    · refine op_repT pins s σ H _ _ v u Q I rx ry ⟨_, _, vs, rfl, rfl, same_seqT st.sub h1, ?_, by omega, k2, by rw [a1.length]; exact l2, fun p hp => ansNew st k hp (is_tup (isA_rep a1 _)) ho⟩
      intro z
      have := a1.length
      rw [z] at this
      simp at this
      omega
  · exact ho.elim

/-! ### is None -/
@[simp] def isNonD : D → Bool
  | .non => true
  | _ => false
theorem is_non_iff {K : PySem.W.Frag} {mg : Str → Option Value} {F : Hp} {v : V} {d : D} (h : Is K mg F v d) : decide (v = .non) = isNonD d := by
  cases h <;> simp
@[simp] def wIsN (w : WE) : WE := fun env q => w env fun d e1 => q (.bl (isNonD d)) e1
@[simp] def wIsNn (w : WE) : WE := fun env q => w env fun d e1 => q (.bl (!isNonD d)) e1
section
variable {X : Cx} {J : GJ} {a : Expr} {wa : WE} {pos pos' : Pos}
theorem pc_isN' {j : Nat} {ta : TE} (ha : PE X a ta) : PC X .Is a (.Constant .none j pos') (tIsN ta) := pc_isN ha
theorem de_isN {j : Nat} (ha : DE X J a wa) (h1 : behindInMarks CmpOp.Is (.Constant .none j pos') = false := by first | exact nobehind _ (by decide) (by decide) | rfl) : DE X J (.Compare a [.Is] [.Constant .none j pos'] pos) (wIsN wa) :=
  ⟨fun pr => PE.imp (pe_cmp (pc_isN (ha.run pr)) h1) fun σ H Q ⟨env, F, q, R, hw, k⟩ => ⟨env, F, _, R, hw, fun d e1 v F1 H1 R1 s1 i1 hq => k _ e1 _ F1 H1 R1 s1 (.bl _) (by rw [is_non_iff i1]; exact hq)⟩⟩
theorem de_isNn {j : Nat} (ha : DE X J a wa) (h1 : behindInMarks CmpOp.IsNot (.Constant .none j pos') = false := by first | exact nobehind _ (by decide) (by decide) | rfl) : DE X J (.Compare a [.IsNot] [.Constant .none j pos'] pos) (wIsNn wa) :=
  ⟨fun pr => PE.imp (pe_cmp (pc_notN (ha.run pr)) h1) fun σ H Q ⟨env, F, q, R, hw, k⟩ => ⟨env, F, _, R, hw, fun d e1 v F1 H1 R1 s1 i1 hq => k _ e1 _ F1 H1 R1 s1 (.bl _) (by rw [is_non_iff i1]; exact hq)⟩⟩
theorem dt_isN {j : Nat} (ha : DE X J a wa) (h1 : behindInMarks CmpOp.Is (.Constant .none j pos') = false := by first | exact nobehind _ (by decide) (by decide) | rfl) : DT X J (.Compare a [.Is] [.Constant .none j pos'] pos) (wTB (wIsN wa)) :=
  ⟨fun pr => PT.imp (pt_cmp (pc_isN (ha.run pr)) h1) fun σ H Q ⟨env, F, q, R, hw, k⟩ => ⟨env, F, _, R, hw, fun d e1 v F1 H1 R1 s1 i1 ⟨b, hb, hq⟩ => ⟨_, rfl, k _ e1 F1 H1 R1 s1 (by
    cases hb
    rw [is_non_iff i1]
    exact hq)⟩⟩⟩
theorem dt_isNn {j : Nat} (ha : DE X J a wa) (h1 : behindInMarks CmpOp.IsNot (.Constant .none j pos') = false := by first | exact nobehind _ (by decide) (by decide) | rfl) : DT X J (.Compare a [.IsNot] [.Constant .none j pos'] pos) (wTB (wIsNn wa)) :=
  ⟨fun pr => PT.imp (pt_cmp (pc_notN (ha.run pr)) h1) fun σ H Q ⟨env, F, q, R, hw, k⟩ => ⟨env, F, _, R, hw, fun d e1 v F1 H1 R1 s1 i1 ⟨b, hb, hq⟩ => ⟨_, rfl, k _ e1 F1 H1 R1 s1 (by
    cases hb
    rw [is_non_iff i1]
    exact hq)⟩⟩⟩
end

/-! ### own[i] += e; own.index(e); an own list by repeating -/
def rGetL0 (K : PySem.W.Frag) : V → V → Hp → VK → Prop := fun o i H Q => ∃ p xs k z, o = .ref p ∧ i = .int k ∧ 0 ≤ k ∧ SqL K H p xs ∧ atI xs k = some z ∧ Q z H
theorem get_list0 {X : Cx} : PGet X (rGetL0 X.K) := by
  intro pins s σ H o i ov iv Q I ro ri ⟨p, xs, k, z, e1, e2, h0, hq, he, q⟩
  subst e1 e2
  cases ro
  obtain ⟨t, rfl⟩ := ri
  obtain ⟨its, r, pl, hz⟩ := I.list hq
  obtain ⟨j, h1, h2, h3, h4, h5⟩ := atI_get he
  obtain ⟨w, ew, rw'⟩ := r.get h2
  have hn := line63
  have hj : k.toNat = j := by
    rw [seqIndex_of h0 h5] at h1
    exact Option.some.inj h1
  exact wpAny_getItem_list pl.isList h0 (by omega) (by rw [hj]; simpa using ew) ⟨z, H, I, rw', q⟩
@[simp] def sAugL (i : Nat) (we wf : WE) : WS := fun env E => (∃ xs, env[i]? = some (.own xs)) ∧ we env fun x e1 => ∃ xs j m, e1[i]? = some (.own xs) ∧ x = .int j ∧ 0 ≤ j ∧ atI xs j = some (.int m) ∧ wf e1 fun y e2 => ∃ ys n k, e2[i]? = some (.own ys) ∧ y = .int n ∧ ixN ys.length j = some k ∧
  E.nx (e2.set i (.own (ys.set k (.int (m + n)))))
@[simp] def wIdx (i : Nat) (we : WE) : WE := fun env q => (∃ xs, env[i]? = some (.own xs)) ∧ we env fun d e1 => ∃ (ns : List Int) (m : Int) (j : Nat), e1[i]? = some (.own (ns.map D.int)) ∧ d = .int m ∧ ns[j]? = some m ∧ (∀ j', j' < j → ns[j']? ≠ some m) ∧ q (.int (j : Nat)) e1
@[simp] def wNewRep (wa wb : WE) : WV := fun env q => wa env fun d e1 => wb e1 fun y e2 => ∃ xs k, d = .lst xs ∧ y = .int k ∧ -(2 ^ 63) ≤ k ∧ k < 2 ^ 63 ∧ xs.length * k.toNat ≤ sizeLine ∧ q (.own (List.replicate k.toNat xs).flatten) e2
section
variable {X : Cx} {J : GJ} {o e f a b : Expr} {we wf wa wb : WE} {apos cpos pos tpos : Pos} {i : Nat}
theorem ds_augL (ho : PE X o (tVar i)) (h : DE X J e we) (hf : DE X J f wf)
    (ha : ∀ ov iv new, augStore e ov iv new = (do holding [new, ov, iv] (setItem ov iv new); release [new, ov, iv] []; pure .next) := by intros; rfl) : DS X J (.AugAssign (.Subscript o e tpos) .Add f pos) (sAugL i we wf) := by
  refine ⟨PS.imp (ps_augS ho h.x get_list0 hf.x ip_add set_list ha) fun Z σ H ⟨pr, env, F, E, R, ⟨⟨xs, hx⟩, hw⟩, le⟩ => ?_⟩
  obtain ⟨p, vs, e1, h1, h2, m⟩ := own_at R hx
  refine ⟨_, e1, pr, env, F, _, R, hw, fun x e2 v F2 H2 R2 s2 i2 ⟨ys, j, mm, hy, hd, h0, hat, hw2⟩ => ?_⟩
  subst hd
  cases i2.int_inv
  obtain ⟨p', ws, e3, h3, h4, m'⟩ := own_at R2 hy
  rw [e1] at e3
  cases e3
  obtain ⟨z, hz, iz⟩ := isA_atI h4 hat
  cases iz.int_inv
  refine ⟨p, ws, j, _, rfl, rfl, h0, SqL.of h3, hz, pr, e2, F2, _, R2, hw2, fun y e4 u F4 H4 R4 s4 i4 ⟨zs, n, l, hy4, hd4, hl, hq⟩ => ?_⟩
  subst hd4
  cases i4.int_inv
  obtain ⟨p'', us, e5, h5, h6, m''⟩ := own_at R4 hy4
  rw [e1] at e5
  cases e5
  exact ⟨_, _, rfl, rfl, p, us, j, l, rfl, rfl, h5, by rw [h6.length]; exact hl, le.nx _ σ F4 _ (R4.lset hy4 e1 (h6.set l (.int _))) (s2.trans s4) hq⟩
theorem de_idx (ho : PE X o (tVar i)) (h : DE X J e we) (hbase : attributeBase o "index" X.env (eval o X.env) = eval o X.env := by rfl)
    (hfew : ((backTo cpos (starEach (e :: []) X.env)).all (fun x => !x.1) && (backToKw cpos (keywordEach [] X.env)).all (fun x => x.1.isSome) && decide ((e :: []).length + ([] : List Keyword).length + (if ([] : List Keyword).isEmpty then 0 else 1) < 30)) = true := by rfl)
    (hline : (apos.endLine == cpos.line) = true := by rfl) (hs : starEach (e :: []) X.env = (false, eval e X.env) :: starEach [] X.env := by rfl) (hplain : (backTo cpos (starEach [] X.env)).any (·.1) = false := by rfl) :
    DE X J (.Call (.Attribute o "index" apos) [e] [] cpos) (wIdx i we) := by
  refine ⟨fun pr => PE.imp (pe_bm PySem.F.plainAttrs_list PySem.F.slot_list_index PySem.F.type_list_index mt_index ho (pa_cons h.x pa_nil hs) hbase hfew hline hs hplain) fun σ H Q ⟨env, F, q, R, ⟨⟨xs, hx⟩, hw⟩, k⟩ => ?_⟩
  obtain ⟨p, vs, e1, h1, h2, m⟩ := own_at R hx
  refine ⟨_, e1, .inl ⟨rfl, vs, SqL.of h1⟩, pr, env, F, _, R, hw, fun d e2 v F2 H2 R2 s2 i2 ⟨ns, mm, j, hy, hd, hg, hn, hq⟩ => ?_⟩
  subst hd
  cases i2.int_inv
  obtain ⟨p', ws, e3, h3, h4, m'⟩ := own_at R2 hy
  rw [e1] at e3
  cases e3
  rw [h4.ints] at h3
  refine ⟨p, ns.map V.int, .int mm, j, .int mm, rfl, rfl, SqL.of h3, rfl, ?_, by rw [List.getElem?_map, hg]; rfl, by simp [eqV], fun l z hl hz => ?_, k _ e2 _ F2 _ R2 s2 (.int _) hq⟩
  · rw [List.all_map]
    exact List.all_eq_true.mpr fun _ _ => rfl
  · rw [List.getElem?_map] at hz
    cases hx : ns[l]? with
    | none =>
      rw [hx] at hz
      cases hz
    | some y =>
      rw [hx] at hz
      cases hz
      have := hn l hl
      rw [hx] at this
      simp only [eqV, beq_eq_false_iff_ne]
      exact fun z => this (by rw [z])
theorem dv_rep (ha : DE X J a wa) (hb : DE X J b wb) : DV X J (.BinOp a .Mult b pos) (wNewRep wa wb) := by
  refine ⟨PE.imp (pe_op op_rep ha.x hb.x) fun σ H Q ⟨pr, env, F, q, R, hw, k⟩ => ⟨pr, env, F, _, R, hw, fun d e1 v F1 H1 R1 s1 i1 hw2 => ⟨pr, e1, F1, _, R1, hw2, fun y e2 u F2 H2 R2 s2 i2 ⟨xs, kk, ed, ey, b1, b2, hl, hq⟩ => ?_⟩⟩⟩
  subst ed ey
  cases i2.int_inv
  obtain ⟨p, vs, rfl, h1, ia⟩ := (i1.mono s2).lst_inv
  refine ⟨p, kk, vs, rfl, rfl, R2.st.sub _ _ h1, b1, b2, by rw [ia.length]; exact hl, fun b nb => ?_⟩
  obtain ⟨m, al⟩ := R2.apart nb
  exact k (.own _) e2 _ F2 _ (R2.stp (R2.st.made nb)) (s1.trans s2) ⟨⟨b, _, rfl, upd_same, isA_rep ia _, m⟩, fun _ => al⟩ hq
end

/-! ### a tuple that stands in the module -/
theorem de_gt {X : Cx} {J : GJ} {x : Str} {pos : Pos} {ds : List D} (hg : Gl X x) (hm : ∃ a, X.mg x = some (.ref a) ∧ ∀ F : Hp, Is X.K X.mg F (.ref a) (.tup ds)) (hd : (x == ("__debug__" : Str)) = false := by decide) : DE X J (.Name x pos) (wC (.tup ds)) :=
  let ⟨a, h, hi⟩ := hm
  de_c (pe_glob (v := .ref a) hg h rfl hd) fun F => hi F
end DL

/-! DL12: sorted and min of lists of pairs of ints; dicts written out and asked. -/
namespace DL
open PySem PySem.Spec PyProof.Rows L2 PySem.W PySem.SeqAt

abbrev pairD (p : Int × Int) : D := .tup [.int p.1, .int p.2]
abbrev pairP (p : Int × Int) : PyData := .tuple [.int p.1, .int p.2]
/-- p is before r, or equal -/
def lexLe (p r : Int × Int) : Prop := p.1 < r.1 ∨ (p.1 = r.1 ∧ p.2 ≤ r.2)
section
variable {K : PySem.W.Frag} {mg : Str → Option Value} {F : Hp}
theorem pair_inv {v : V} {p : Int × Int} (h : Is K mg F v (pairD p)) : ∃ t, v = .ref t ∧ SqT K F t [.int p.1, .int p.2] := by
  obtain ⟨a, xs, rfl, hs, ia⟩ := h.tup_inv
  obtain ⟨x, y, rfl, h1, h2⟩ := ia.two_inv
  cases h1.int_inv
  cases h2.int_inv
  exact ⟨a, rfl, hs⟩
theorem pairs_at : ∀ {vs : List V} {ps : List (Int × Int)}, IsA K mg F vs (ps.map pairD) → ∀ v ∈ vs, ∃ p ∈ ps, Is K mg F v (pairD p)
  | _, [], h, v, hv => by
    cases h.nil_inv
    cases hv
  | _, p :: ps, h, v, hv => by
    obtain ⟨x, r, rfl, h1, t⟩ := IsA.cons_inv (h : IsA K mg F _ (pairD p :: ps.map pairD))
    rcases List.mem_cons.mp hv with e | hv
    · subst e
      exact ⟨p, List.mem_cons_self, h1⟩
    · obtain ⟨q, hq, hi⟩ := pairs_at t v hv
      exact ⟨q, List.mem_cons_of_mem _ hq, hi⟩
end
def rSortedPT (K : PySem.W.Frag) : List V → Hp → VK → Prop := fun vs H Q => ∃ (a : Addr) (xs : List V) (k : V → Int × Int), vs = [V.ref a] ∧ SqL K H a xs ∧ (∀ x ∈ xs, ∃ t, x = V.ref t ∧ SqT K H t [.int (k x).1, .int (k x).2]) ∧
  ∀ ys p, SrtO.Srtd (ltP k) ys → SrtO.Stb (ltP k) ys xs → H p = none → Q (.ref p) (upd H p (.lst ys))
section
variable {X : Cx} {J : GJ}
theorem cr_sortedPT : CallR X (.builtin "sorted") (rSortedPT X.K) := by
  intro pins s σ H vs us Q I r h
  obtain ⟨a, xs, k, rfl, hs, hx, q⟩ := h
  obtain ⟨its, rv, hl, hz⟩ := I.list hs
  obtain ⟨u, rfl, ru⟩ := vals1 r
  obtain rfl : u = Value.ref a := ru
  obtain ⟨e1, e2⟩ := refs_back rv fun x m => by
    obtain ⟨t, e, _⟩ := hx x m
    exact ⟨t, e⟩
  refine SrtO.sorted_pairsO (k := fun u => k (backV u)) hl.isList (by rw [← rv.length]; exact hz) (fun v hv => ?_) fun h' d out h1 h2 kp hd hn => ?_
  · obtain ⟨t, rfl⟩ := e2 v hv
    have hm : V.ref t ∈ xs := by rw [e1]; exact List.mem_map.mpr ⟨_, hv, rfl⟩
    obtain ⟨t', e, ht⟩ := hx _ hm
    cases e
    obtain ⟨its2, r2, ⟨o, ho, hc, n, hd⟩, _⟩ := I.tuple ht
    obtain ⟨u1, u2, rfl, ri, rj⟩ := vals2 r2
    obtain ⟨t1, rfl⟩ := ri
    obtain ⟨t2, rfl⟩ := rj
    exact ⟨t, o, t1, t2, n, rfl, ho, hc, hd⟩
  · have h3 : ∀ u ∈ out, ∃ a, u = Value.ref a := fun u hu => e2 u (h2.perm.mem_iff.mp hu)
    obtain ⟨n, hn⟩ := hn
    have hb : SrtO.Stb (ltP k) (out.map backV) xs := by
      rw [e1]
      exact SrtO.Stb.map (ltP_swo k) backV h2
    refine ⟨.ref d, upd H d (.lst (out.map backV)), I.laid (t' := s.toks) kp hd ⟨?_, out, n, vals_back h3, hn⟩, rfl, q _ d (SrtO.srtd_map h1) hb (I.hok.fresh hd)⟩
    rw [hb.len]
    exact hz
@[simp] def oSortP : Prim
  | [.lst xs], q => ∃ ps : List (Int × Int), xs = ps.map pairD ∧ ∀ qs : List (Int × Int), qs.Perm ps → qs.Pairwise lexLe → q (.lst (qs.map pairD))
  | _, _ => False
open Classical in
noncomputable def keyP (K : PySem.W.Frag) (H : Hp) (x : V) : Int × Int := if h : ∃ t, ∃ p : Int × Int, x = .ref t ∧ SqT K H t [.int p.1, .int p.2] then h.choose_spec.choose else (0, 0)
theorem keyP_eq {pins : List (Addr × Obj)} {σ : L2.St} {H : Hp} {s : Shared} (I : Inv X pins σ H s) {x : V} {t : Addr} {p : Int × Int} (e : x = .ref t) (h : SqT X.K H t [.int p.1, .int p.2]) : keyP X.K H x = p := by
  have ex : ∃ t, ∃ p : Int × Int, x = .ref t ∧ SqT X.K H t [.int p.1, .int p.2] := ⟨t, p, e, h⟩
  unfold keyP
  rw [dif_pos ex]
  obtain ⟨e', h'⟩ := ex.choose_spec.choose_spec
  have et : t = ex.choose := by
    have := e.symm.trans e'
    injection this
  have h2 := h
  rw [et] at h2
  have := I.tuple_inj h' h2
  injection this with a b
  injection a with a
  injection b with b _
  injection b with b
  exact Prod.ext a b
theorem cd_sortP : CallD X J (.builtin "sorted") oSortP := by
  intro pins s σ H xs us Q I r ⟨pr, F, ds, q, st, ia, ho, k⟩
  unfold oSortP at ho
  split at ho
  · obtain ⟨a, e, ha⟩ := ia.one_inv
    cases e
    obtain ⟨p1, vs, rfl, h1, a1⟩ := ha.lst_inv st.sub
    obtain ⟨ps, rfl, ho⟩ := ho
    have key : ∀ v ∈ vs, ∃ p ∈ ps, Is X.K X.mg F v (pairD p) ∧ keyP X.K H v = p := fun v hv => by
      obtain ⟨p, hp, hi⟩ := pairs_at a1 v hv
      obtain ⟨t, e, hs⟩ := pair_inv hi
      exact ⟨p, hp, hi, keyP_eq I e (same_seqT st.sub hs)⟩
    have keys : ∀ (ws : List V) (qs : List (Int × Int)), IsA X.K X.mg F ws (qs.map pairD) → ws.map (keyP X.K H) = qs := by
      intro ws
      induction ws with
      | nil =>
        intro qs h
        cases qs with
        | nil => rfl
        | cons p qs => cases h
      | cons w ws ih =>
        intro qs h
        cases qs with
        | nil => cases h
        | cons p qs =>
          obtain ⟨x, r, e, hx, hr⟩ := IsA.cons_inv (h : IsA X.K X.mg F _ (pairD p :: qs.map pairD))
          cases e
          obtain ⟨t, e, hs⟩ := pair_inv hx
          rw [List.map_cons, ih qs hr, keyP_eq I e (same_seqT st.sub hs)]
    refine cr_sortedPT pins s σ H _ us Q I r ⟨p1, vs, keyP X.K H, rfl, SqL.of h1, fun x hx => ?_, fun ys p hsort hstb hp => ?_⟩
    · obtain ⟨pp, _, hi, e⟩ := key x hx
      obtain ⟨t, et, hs⟩ := pair_inv hi
      exact ⟨t, et, by rw [e]; exact same_seqT st.sub hs⟩
    · have mem : ∀ y ∈ ys, Is X.K X.mg F y (pairD (keyP X.K H y)) := fun y hy => by
        obtain ⟨pp, _, hi, e⟩ := key y (hstb.perm.mem_iff.mp hy)
        rw [e]
        exact hi
      have all : ∀ (ws : List V), (∀ y ∈ ws, Is X.K X.mg F y (pairD (keyP X.K H y))) → IsA X.K X.mg F ws ((ws.map (keyP X.K H)).map pairD) := by
        intro ws
        induction ws with
        | nil => intro _; exact .nil
        | cons w ws ih => intro h; exact .cons (h w List.mem_cons_self) (ih fun y hy => h y (List.mem_cons_of_mem _ hy))
      refine ansNew st k hp (is_lst (all ys mem)) (ho _ ?_ ?_)
      · have := hstb.perm.map (keyP X.K H)
        rwa [keys vs ps a1] at this
      · rw [List.pairwise_map]
        exact hsort.imp fun {x y} h => by
          have := SrtO.lexB_no.mp h
          unfold lexLe
          omega
  · exact ho.elim

/-! ### min -/
@[simp] def oMinA : Prim
  | [.lst xs], q => (∃ ns : List Int, xs = ns.map D.int ∧ 0 < ns.length ∧ ∀ m, m ∈ ns → (∀ y, y ∈ ns → m ≤ y) → q (.int m)) ∨
    ∃ ps : List (Int × Int), xs = ps.map pairD ∧ 0 < ps.length ∧ ∀ m, m ∈ ps → (∀ y, y ∈ ps → lexLe m y) → q (pairD m)
  | [.int i, .int j], q => q (.int (if j < i then j else i))
  | _, _ => False
theorem toPyA_pairs : ∀ ps : List (Int × Int), toPyA (ps.map pairD) = some (ps.map pairP)
  | [] => rfl
  | p :: ps => by
    simp [toPyA, toPy, toPyA_pairs ps]
theorem minD_pairs (p : Int × Int) : ∀ ps : List (Int × Int), ∃ m ∈ p :: ps, minD (pairP p) (ps.map pairP) = pairP m ∧ ∀ y ∈ p :: ps, lexLe m y := by
  intro ps
  unfold minD
  induction ps generalizing p with
  | nil => exact ⟨p, List.mem_cons_self, rfl, fun y hy => by
      have : y = p := by simpa using hy
      subst this
      exact .inr ⟨rfl, Int.le_refl _⟩⟩
  | cons r ps ih =>
    rw [List.map_cons, List.foldl_cons]
    have e : (if dataLt (pairP r) (pairP p) then pairP r else pairP p) = pairP (if r.1 < p.1 ∨ (r.1 = p.1 ∧ r.2 < p.2) then r else p) := by
      rw [dataLt_ii]
      by_cases h : r.1 < p.1 ∨ (r.1 = p.1 ∧ r.2 < p.2)
      · rw [if_pos (decide_eq_true h), if_pos h]
      · rw [if_neg (by simpa using h), if_neg h]
    rw [e]
    obtain ⟨m, hm, e2, h⟩ := ih (if r.1 < p.1 ∨ (r.1 = p.1 ∧ r.2 < p.2) then r else p)
    refine ⟨m, ?_, e2, fun y hy => ?_⟩
    · rcases List.mem_cons.mp hm with e | hm
      · rw [e]
        split <;> simp
      · exact List.mem_cons_of_mem _ (List.mem_cons_of_mem _ hm)
    · have h0 := h _ List.mem_cons_self
      unfold lexLe at h0 ⊢
      rcases List.mem_cons.mp hy with e | hy
      · subst e
        split at h0 <;> omega
      · rcases List.mem_cons.mp hy with e | hy
        · subst e
          split at h0 <;> omega
        · exact h y (List.mem_cons_of_mem _ hy)
theorem pair_alike (ps : List (Int × Int)) : AlikeAll (ps.map pairP) := by
  refine ⟨fun x hx y hy => ?_, fun x hx => ?_⟩
  · obtain ⟨p, _, rfl⟩ := List.mem_map.mp hx
    obtain ⟨r, _, rfl⟩ := List.mem_map.mp hy
    rfl
  · obtain ⟨p, _, rfl⟩ := List.mem_map.mp hx
    intro e
    cases e
theorem pair_depth : ∀ ps : List (Int × Int), PyData.depthAll (ps.map pairP) ≤ 60
  | [] => by decide
  | p :: ps => by
    have := pair_depth ps
    have e : (pairP p).depth ≤ 60 := by
      show PyData.depth (.tuple [.int p.1, .int p.2]) ≤ 60
      simp [PyData.depth, PyData.depthAll]
    rw [List.map_cons]
    show max _ _ ≤ 60
    omega
theorem cd_minA (hc : X.calm = true) (hu : X.A.units + 65 < cLine) : CallD X J (.builtin "min") oMinA := by
  intro pins s σ H xs us Q I r ⟨pr, F, ds, q, st, ia, ho, k⟩
  unfold oMinA at ho
  split at ho
  · obtain ⟨a, e, ha⟩ := ia.one_inv
    cases e
    obtain ⟨p1, vs, rfl, h1, a1⟩ := ha.lst_inv st.sub
    rcases ho with ⟨bs, rfl, hl, ho⟩ | ⟨ps, rfl, hl, ho⟩
    · rw [a1.ints] at h1
      exact cr_min hc pins s σ H _ us Q I r ⟨_, bs, rfl, SqL.of h1, hl, fun m h2 h3 => ans st k (.int _) (ho m h2 h3)⟩
    · obtain ⟨u, rfl, ru⟩ := vals1 r
      obtain rfl : u = Value.ref p1 := ru
      obtain ⟨its, rv, p, _⟩ := I.list (SqL.of h1)
      have dp := dpA_mono st.sub (IsA.toDp _ vs _ a1 (toPyA_pairs ps))
      obtain ⟨as, rd⟩ := Dp.readsAll I _ vs its dp rv
      cases ps with
      | nil => cases hl
      | cons p0 ps =>
        obtain ⟨m, hm, em, hle⟩ := minD_pairs p0 ps
        have pl : s.heap.IsList p1 its.toArray := p.isList
        refine min_list_data (x := pairP p0) (xs := ps.map pairP) (I.ok.hd hc) pl rd (pair_alike (p0 :: ps)) (by have := pair_depth (p0 :: ps); rw [List.map_cons] at this; omega) fun i v h' tk bs hv hr hk => ?_
        have hi : its[i]? = some v := by simpa using hv
        have hlt : i < its.length := (List.getElem?_eq_some_iff.mp hi).1
        have hvl : i < vs.length := by rw [rv.length]; exact hlt
        have hz := List.getElem?_eq_getElem hvl
        obtain ⟨u, hu2, ru⟩ := rv.get hz
        rw [hi] at hu2
        cases hu2
        have hpl : i < (p0 :: ps).length := by
          have := a1.length
          rw [List.length_map] at this
          omega
        obtain ⟨z, hz2, iz⟩ := a1.get (i := i) (d := pairD (p0 :: ps)[i]) (by rw [List.getElem?_map, List.getElem?_eq_getElem hpl]; rfl)
        rw [hz] at hz2
        cases hz2
        have e1 : toPy (pairD (p0 :: ps)[i]) = some (pairP (p0 :: ps)[i]) := by simp [toPy, toPyA]
        obtain ⟨as2, r2⟩ := Dp.reads I _ vs[i] v (dp_mono st.sub (Is.toDp _ _ _ iz e1)) ru
        rw [em] at hr
        obtain ⟨e3, _⟩ := reads_det (fun b o e _ => hk b o e) r2 hr
        have e4 : (p0 :: ps)[i] = m := by
          injection e3 with e3
          injection e3 with a b
          injection b with b _
          injection a with a
          injection b with b
          exact (Prod.ext a b).symm
        refine ⟨vs[i], H, I.kept hk, ru, ans st k iz ?_⟩
        rw [e4]
        exact ho m hm hle
  · obtain ⟨a, b, e, ha, hb⟩ := ia.two_inv
    cases e
    cases ha.int_inv
    cases hb.int_inv
    exact call_min2 hc pins s σ H _ us Q I r ⟨_, _, rfl, ans st k (.int _) ho⟩
  · exact ho.elim
end
end DL

/-! DL13: a dict written out, texts for keys, and asked at once. -/
namespace DL
open PySem PySem.Spec PyProof.Rows L2

@[simp] def wPs : List (Str × WE) → En → (List (Key × D) → En → Prop) → Prop
  | [], env, q => q [] env
  | (x, w) :: r, env, q => w env fun d e1 => wPs r e1 fun ds e2 => q ((.inr x, d) :: ds) e2
@[simp] def wAsk (r : List (Str × WE)) (we : WE) : WE := fun env q => wPs r env fun ds e1 => we e1 fun d e2 => ∃ k y, keyOf d = some k ∧ dLook ds k = some y ∧ q y e2
inductive PsD (X : Cx) (J : GJ) : List (Option Expr) → List Expr → List (Str × WE) → Prop
  | nil : PsD X J [] [] []
  | cons {x : Str} {kk : Nat} {pos : Pos} {e : Expr} {w : WE} {ks : List (Option Expr)} {vs : List Expr} {r : List (Str × WE)} : DE X J e w → PsD X J ks vs r → PsD X J (some (.Constant (.str x) kk pos) :: ks) (e :: vs) ((x, w) :: r)
def trsOf (X : Cx) (J : GJ) (r : List (Str × WE)) : List (TE × TE) := r.map fun p => (tC (.str p.1), xE X.K X.mg J p.2)
theorem PsD.pps {X : Cx} {J : GJ} {pos : Pos} {ks : List (Option Expr)} {vs : List Expr} {r : List (Str × WE)} (h : PsD X J ks vs r) : PPs X pos ks vs (trsOf X J r) := by
  induction h with
  | nil => exact pps_nil
  | cons h _ ih => exact pps_cons pe_str h.x ih
theorem wPs_keys : ∀ (r : List (Str × WE)) (env : En) (q : List (Key × D) → En → Prop), wPs r env q → True := fun _ _ _ _ => trivial
theorem tPairs_of {X : Cx} {J : GJ} {pr : Hp} {σ : L2.St} : ∀ (r : List (Str × WE)) (env : En) (F H : Hp) (Q : List (V × V) → Hp → Prop) (q : List (Key × D) → En → Prop), Rep X.K X.mg J pr env σ F H → wPs r env q →
    (∀ (ds : List (Key × D)) (ws : List (Key × V)) env' F' H', Rep X.K X.mg J pr env' σ F' H' → Same F F' → IsKV X.K X.mg F' ws ds → ws.map (·.1) = r.map (fun p => (.inr p.1 : Key)) → q ds env' → Q (ws.map fun kv => (kV kv.1, kv.2)) H') → tPairs (trsOf X J r) σ H Q
  | [], env, F, H, Q, q, R, hw, k => k [] [] env F H R (Same.refl _) .nil rfl hw
  | (x, w) :: r, env, F, H, Q, q, R, hw, k => by
    show tC (.str x) σ H fun x1 H1 => xE X.K X.mg J w σ H1 fun y H2 => tPairs (trsOf X J r) σ H2 fun ps H3 => Q ((x1, y) :: ps) H3
    refine ⟨pr, env, F, _, R, hw, fun d e1 v F1 H1 R1 s1 i1 hw1 => tPairs_of r e1 F1 H1 _ _ R1 hw1 fun ds ws e2 F2 H2 R2 s2 i2 hk hq => ?_⟩
    exact k ((.inr x, d) :: ds) ((.inr x, v) :: ws) e2 F2 H2 R2 (s1.trans s2) (.cons ⟨rfl, i1.mono s2⟩ i2) (by rw [List.map_cons, List.map_cons, hk]) hq
theorem mergeK_nodup : ∀ (more kvs : List (Key × V)), (kvs.map (·.1) ++ more.map (·.1)).Nodup → mergeK kvs more = kvs ++ more
  | [], kvs, _ => by
    rw [List.append_nil]
    rfl
  | p :: r, kvs, h => by
    have hp : putK kvs p.1 p.2 = kvs ++ [p] := by
      unfold putK
      rw [if_neg]
      intro hc
      obtain ⟨kv, hm, he⟩ := List.any_eq_true.mp hc
      have he := of_decide_eq_true he
      rw [List.nodup_append] at h
      exact h.2.2 p.1 (he ▸ List.mem_map.mpr ⟨kv, hm, rfl⟩) p.1 (by simp) rfl
    show mergeK (putK kvs p.1 p.2) r = kvs ++ p :: r
    rw [hp, mergeK_nodup r (kvs ++ [p]) (by simpa using h), List.append_assoc]
    rfl
section
variable {X : Cx} {J : GJ} {e : Expr} {we : WE} {pos pos1 : Pos} {keys : List (Option Expr)} {values : List Expr} {r : List (Str × WE)}
theorem de_ask (hu : X.A.units + 1 < cLine) (h : PsD X J keys values r) (he : DE X J e we) (hs : NoSl e) (hall : keys.all (·.isSome) = true := by rfl) (hl : keys.length = values.length := by rfl) (h0 : keys ≠ [] := by intro z; cases z)
    (h15 : keys.length ≤ 15 := by decide) (nd : (r.map fun p => p.1).Nodup := by decide) (hr : r.length ≤ 15 := by decide) : DE X J (.Subscript (.Dict keys values pos1) e pos) (wAsk r we) := by
  refine ⟨fun pr => PE.imp (pe_dget hu (pe_disp (pos := pos1) h.pps hall hl h0 h15) he.x hs) fun σ H Q ⟨env, F, q, R, hw, k⟩ => ?_⟩
  intro p n
  obtain ⟨m, al⟩ := R.apart n
  have R2 := (R.stp (R.st.made (o := .dK []) n)).more upd_same m nt_dK al
  refine tPairs_of r env F _ _ _ R2 hw fun ds ws e1 F1 H1 R1 s1 i1 hk hw1 => ?_
  have hp := (R1.st.prk p _ upd_same).1
  have hnd : (ws.map (·.1)).Nodup := by
    rw [hk]
    have : r.map (fun p => (.inr p.1 : Key)) = (r.map fun p => p.1).map fun x => (.inr x : Key) := by rw [List.map_map]; rfl
    rw [this]
    exact List.pairwise_map.mpr (List.Pairwise.imp (fun h e => h (by injection e)) nd)
  have hm : mergeK [] ws = ws := by
    have := mergeK_nodup ws [] (by simpa using hnd)
    simpa using this
  have hwl : ws.length = r.length := by
    have := congrArg List.length hk
    simpa using this
  refine ⟨hp, ws, rfl, by omega, ?_⟩
  rw [hm]
  have R3 := R1.wr (o' := .dK ws) m.q nt_dK (fun φ z => by cases z)
  refine ⟨_, e1, F1, _, R3, hw1, fun d e2 v F2 H2 R4 s2 i2 ⟨kk, y, h1, h2, hq⟩ => ?_⟩
  have hp2 := (R4.st.prk p _ upd_same).1
  have i3 := IsKV.mono s2 i1
  obtain ⟨u, hu2, iu⟩ := (i3.look kk).1 y h2
  have ev := key_val i2 h1
  subst ev
  exact ⟨p, u, rfl, by
    have := DGet.k (k := kk) hp2
    rwa [hu2] at this, k y e2 u F2 H2 (R4.less m.q).1 (s1.trans s2) iu hq⟩
end
end DL

/-! DL14: // by greater ints. -/
namespace DL
open PySem PySem.Spec PyProof.Rows L2

@[simp] def oDivA : Prim
  | [.int i, .int j], q => (0 < j ∧ j < 2 ^ 64) ∧ q (.int (i / j))
  | _, _ => False
theorem cdivW {i j : Int} (h : 0 < j ∧ j < 2 ^ 64) : CDivW i j := by
  refine ⟨h.1, ?_⟩
  have h1 : j.natAbs ≠ 0 := by omega
  have h2 : j.natAbs < 2 ^ 64 := by
    have := h.2
    have e : ((2 : Int) ^ 64) = ((2 ^ 64 : Nat) : Int) := by norm_cast
    omega
  have := (Nat.log2_lt h1).mpr h2
  omega
theorem od_divA {X : Cx} {J : GJ} : OpD X J (binaryOp .FloorDiv) oDivA := by
  intro pins s σ H x y v u Q I rx ry ⟨pr, F, ds, q, st, ia, ho, k⟩
  unfold oDivA at ho
  split at ho
  · obtain ⟨a, b, e, ha, hb⟩ := ia.two_inv
    cases e
    cases ha.int_inv
    cases hb.int_inv
    exact op_fdivW pins s σ H _ _ v u Q I rx ry ⟨_, _, rfl, rfl, cdivW ho.1, ans st k (.int _) ho.2⟩
  · exact ho.elim
end DL

/-! Spec54: what the defs compute, by data. -/
namespace DL
open PySem PySem.Spec PyProof.Rows L2

def topS (i : Nat) : Stmt := PySem.Challenge.pw_playershouse_k54_whole_seats_by_four_rul.main.body.getD i (.Pass ⟨0, 0, 0, 0⟩)

/-! ### the hand -/
/-- the hand at a; its cells never change -/
def HandD (ns : List Int) (i d s k : Int) : List D := [.lst (ns.map D.int), .int i, .int d, .int s, .int k]
structure HandOk (ns : List Int) (i d s k : Int) : Prop where
  len : ns.length ≤ 63
  cell : ∀ n ∈ ns, 0 ≤ n
  i0 : 0 ≤ i
  d0 : 0 ≤ d
structure HandAt (a : Addr) (F H : Hp) : Prop where
  ex : ∃ (c : Addr) (ns : List Int) (i d s k : Int), F c = some (.lst (ns.map V.int)) ∧ H a = some (.lst [.ref c, .int i, .int d, .int s, .int k]) ∧ HandOk ns i d s k
/-- J's changing part is a hand at a, beside T -/
structure IsHand (J : GJ) (a : Addr) : Prop where
  ex : ∃ (T : Addr → Prop) (I : Hp → Prop), J.mt = (fun b => b = a ∨ T b) ∧ ¬ T a ∧ (∀ F H, J.inv F H ↔ HandAt a F H ∧ I H) ∧ (∀ H H', (∀ b, T b → H' b = H b) → (∀ b φ, H b = some (.ext φ) → H' b = some (.ext φ)) → I H → I H') ∧ ∀ H b, I H → T b → H b ≠ none

/-! ### plain functions -/
def natD (l : List Nat) : List D := l.map fun i => .int (i : Nat)
def tuI (ns : List Int) : D := .tup (ns.map D.int)
def liI (ns : List Int) : D := .lst (ns.map D.int)
structure VOk (vs : List Int) : Prop where
  lo : 1 ≤ vs.length
  hi : vs.length ≤ 6
  nn : ∀ v ∈ vs, 0 ≤ v
  top : ∀ v ∈ vs, v ≤ 1000000000000
  pos : 0 < vs.sum
/-- so many seats each -/
structure TOk (vs ts : List Int) : Prop where
  len : ts.length = vs.length
  nn : ∀ t ∈ ts, 0 ≤ t
  top : ∀ t ∈ ts, t ≤ 1000
abbrev r1 : Str := "first"
abbrev r2 : Str := "middle"
abbrev r3 : Str := "up"
abbrev r4 : Str := "rest"
def stepI (r : Str) (h : Int) : Int := if r = r1 then h + 1 else if r = r2 then 2 * h + 1 else h
def nrm (p : Int × Int) : Int × Int := if p.1 > 0 then p else (0, 1)
def aheadB (x y : Int × Int) : Bool :=
  if (nrm x).2 = 0 ∧ (nrm y).2 = 0 then decide ((nrm x).1 > (nrm y).1) else if (nrm x).2 = 0 ∨ (nrm y).2 = 0 then decide ((nrm x).2 = 0) else decide ((nrm x).1 * (nrm y).2 > (nrm y).1 * (nrm x).2)
def keyI (r : Str) (vs ts : List Int) (i : Nat) : Int × Int := (vs.getD i 0, stepI r (ts.getD i 0))
def nextI (r : Str) (vs ts : List Int) : Nat := (List.range vs.length).foldl (fun b i => if aheadB (keyI r vs ts i) (keyI r vs ts b) then i else b) 0
def bump (ts : List Int) (b : Nat) : List Int := ts.set b (ts.getD b 0 + 1)
def seatsI (r : Str) (vs : List Int) : Nat → List Int
  | 0 => List.replicate vs.length 0
  | k + 1 => bump (seatsI r vs k) (nextI r vs (seatsI r vs k))
def baseI (vs : List Int) (m : Int) (i : Nat) : Int := vs.getD i 0 * m / vs.sum
def overI (vs : List Int) (m : Int) (i : Nat) : Int := vs.getD i 0 * m % vs.sum
/-- j comes ahead of i where rests are given out -/
def befI (vs : List Int) (m : Int) (j i : Nat) : Bool := decide (overI vs m j > overI vs m i) || (decide (overI vs m j = overI vs m i) && decide (j < i))
def rankI (vs : List Int) (m : Int) (i : Nat) : Nat := ((List.range vs.length).filter fun j => befI vs m j i).length
def leftI (vs : List Int) (m : Int) : Int := m - ((List.range vs.length).map (baseI vs m)).sum
def restI (vs : List Int) (m : Int) : List Int := (List.range vs.length).map fun i => baseI vs m i + if (rankI vs m i : Int) < leftI vs m then 1 else 0
def rawI (r : Str) (vs : List Int) (m : Int) : List Int := if r = r4 then restI vs m else seatsI r vs m.toNat
def gcdI (a b : Int) : Int := (Int.gcd a b : Nat)
def lowF (p q : Int) : Int × Int := (p / gcdI p q, q / gcdI p q)
def belowB (x y : Int × Int) : Bool := decide (x.1 * y.2 < y.1 * x.2)
def maxF : List (Int × Int) → Int × Int
  | [] => (0, 1)
  | p :: ps => ps.foldl (fun a x => if belowB a x then x else a) p
def minF : List (Int × Int) → Int × Int
  | [] => (0, 1)
  | p :: ps => ps.foldl (fun a x => if belowB x a then x else a) p
def loF (r : Str) (v t : Int) : Int × Int := if r = r1 then lowF v (t + 1) else lowF (2 * v) (2 * t + 1)
def hiF (r : Str) (v t : Int) : Int × Int := if r = r1 then lowF v t else lowF (2 * v) (2 * t - 1)
def lowsI (r : Str) (vs ts : List Int) : List (Int × Int) := (vs.zip ts).map fun p => loF r p.1 p.2
def highsI (r : Str) (vs ts : List Int) : List (Int × Int) := ((vs.zip ts).filter fun p => decide (p.2 > 0)).map fun p => hiF r p.1 p.2
def endsD (r : Str) (vs ts : List Int) : D := match highsI r vs ts with
  | [] => .tup [pairD (maxF (lowsI r vs ts)), .non]
  | h :: hs => if belowB (minF (h :: hs)) (maxF (lowsI r vs ts)) then .non else .tup [pairD (maxF (lowsI r vs ts)), pairD (minF (h :: hs))]
def fallsB (vs : List Int) (m : Nat) : Bool := ((restI vs m).zip (restI vs ((m : Int) + 1))).any fun p => decide (p.1 > p.2)
def lostD (vs : List Int) (most : Nat) : D := match (List.range most).find? (fallsB vs) with
  | some m => .int (m : Nat)
  | none => .non
/-- short fractions -/
structure FOk (p : Int × Int) : Prop where
  a0 : 0 ≤ p.1
  a1 : p.1 ≤ 10000000000000
  b0 : 0 < p.2
  b1 : p.2 ≤ 10000000000000

/-! ### promises -/
def S_is_integer : Spec := fun _ ds q => ∃ i, ds = [.int i] ∧ q (.bl true)
def S_is_within : Spec := fun _ ds q => ∃ i lo hi, ds = [.int i, .int lo, .int hi] ∧ q (.bl (decide (lo ≤ i) && decide (i ≤ hi)))
def S_is_number : Spec := fun _ ds q => ∃ i, ds = [.int i] ∧ q (.bl (decide (i ≥ 0)))
def S_is_tuple : Spec := fun _ ds q => ∃ xs n, ds = [.tup xs, .int n] ∧ q (.bl (decide ((xs.length : Int) = n)))
def S_is_sized : Spec := fun _ ds q => ∃ xs lo hi, ds = [.tup xs, .int lo, .int hi] ∧ q (.bl (decide (lo ≤ (xs.length : Int)) && decide ((xs.length : Int) ≤ hi)))
def S_divisor_of : Spec := fun _ ds q => ∃ a b : Int, ds = [.int a, .int b] ∧ 0 ≤ a ∧ 0 ≤ b ∧ q (.int (gcdI a b))
def S_lowest : Spec := fun _ ds q => ∃ a b : Int, ds = [.int a, .int b] ∧ FOk (a, b) ∧ q (pairD (lowF a b))
def S_is_below : Spec := fun _ ds q => ∃ x y : Int × Int, ds = [pairD x, pairD y] ∧ FOk x ∧ FOk y ∧ q (.bl (belowB x y))
def S_is_most : Spec := fun _ ds q => ∃ x y : Int × Int, ds = [pairD x, pairD y] ∧ FOk x ∧ FOk y ∧ q (.bl (!belowB y x))
def S_greatest : Spec := fun _ ds q => ∃ ps : List (Int × Int), ds = [.lst (ps.map pairD)] ∧ ps ≠ [] ∧ (∀ p ∈ ps, FOk p) ∧ q (pairD (maxF ps))
def S_least : Spec := fun _ ds q => ∃ ps : List (Int × Int), ds = [.lst (ps.map pairD)] ∧ ps ≠ [] ∧ (∀ p ∈ ps, FOk p) ∧ q (pairD (minF ps))
def S_check_votes : Spec := fun _ ds q => ∃ vs, ds = [tuI vs] ∧ VOk vs ∧ q .non
def S_is_ahead : Spec := fun _ ds q => ∃ x y : Int × Int, ds = [pairD x, pairD y] ∧ (x.1 ≤ 10000000000000 ∧ 0 ≤ x.1 ∧ 0 ≤ x.2 ∧ x.2 ≤ 10000000000000) ∧ (y.1 ≤ 10000000000000 ∧ 0 ≤ y.1 ∧ 0 ≤ y.2 ∧ y.2 ≤ 10000000000000) ∧ q (.bl (aheadB x y))
def S_step_of : Spec := fun _ ds q => ∃ (r : Str) (h : Int), ds = [.str r, .int h] ∧ 0 ≤ h ∧ h ≤ 1000 ∧ q (.int (stepI r h))
def S_one_by_one : Spec := fun _ ds q => ∃ (r : Str) (vs : List Int) (m : Int), ds = [tuI vs, .int m, .str r] ∧ VOk vs ∧ 0 ≤ m ∧ m ≤ 201 ∧ q (tuI (seatsI r vs m.toNat))
def S_by_rests : Spec := fun _ ds q => ∃ (vs : List Int) (m : Int), ds = [tuI vs, .int m] ∧ VOk vs ∧ 0 ≤ m ∧ m ≤ 201 ∧ q (tuI (restI vs m))
def S_raw_seats : Spec := fun _ ds q => ∃ (r : Str) (vs : List Int) (m : Int), ds = [tuI vs, .int m, .str r] ∧ VOk vs ∧ 0 ≤ m ∧ m ≤ 201 ∧ q (tuI (rawI r vs m))
def S_check_rule : Spec := fun _ ds q => ∃ (r : Str) (rs : List Str), ds = [.str r, .tup (rs.map D.str)] ∧ r ∈ rs ∧ (∀ x ∈ rs, PyData.strOk x = true) ∧ q .non
def S_seats : Spec := fun _ ds q => ∃ (r : Str) (vs : List Int) (m : Int), ds = [tuI vs, .int m, .str r] ∧ r ∈ [r1, r2, r3, r4] ∧ VOk vs ∧ 0 ≤ m ∧ m ≤ 200 ∧ q (tuI (rawI r vs m))
def S_divisors : Spec := fun _ ds q => ∃ (r : Str) (vs ts : List Int), ds = [tuI vs, tuI ts, .str r] ∧ r ∈ [r1, r2] ∧ VOk vs ∧ TOk vs ts ∧ q (endsD r vs ts)
def S_lost_seat : Spec := fun _ ds q => ∃ (vs : List Int) (m : Nat), ds = [tuI vs, .int m] ∧ VOk vs ∧ 1 ≤ m ∧ m ≤ 100 ∧ q (lostD vs m)
def S__law_draw : Spec := fun J ds q => ∃ a m, ds = [.tk a, .int m] ∧ IsHand J a ∧ 0 < m ∧ m ≤ 10000000000000 ∧ ∀ r : Int, 0 ≤ r → r < m → q (.int r)
def S__law_any : Spec := fun J ds q => ∃ a xs, ds = [.tk a, .lst xs] ∧ IsHand J a ∧ xs ≠ [] ∧ xs.length ≤ 1000 ∧ ∀ x ∈ xs, q x
def S__law_like : Spec := fun _ ds q => ∃ d, ds = [d, d] ∧ okE 60 d = true ∧ okS d = true ∧ rl d ≤ sizeLine ∧ q (.bl true)
def S__law_low : Spec := S_lowest
def S__law_below : Spec := S_is_below
def S__law_votes : Spec := fun J ds q => ∃ a, ds = [.tk a] ∧ IsHand J a ∧ ∀ vs, VOk vs → q (tuI vs)
def S__law_next : Spec := fun _ ds q => ∃ (r : Str) (vs ts : List Int), ds = [tuI vs, liI ts, .str r] ∧ r ∈ [r1, r2, r3] ∧ VOk vs ∧ TOk vs ts ∧ q (.int (nextI r vs ts : Nat))
def S__law_seats : Spec := fun _ ds q => ∃ (r : Str) (vs : List Int) (m : Int), ds = [tuI vs, .int m, .str r] ∧ r ∈ [r1, r2, r3, r4] ∧ VOk vs ∧ 0 ≤ m ∧ m ≤ 201 ∧ q (tuI (rawI r vs m))
def S__law_ends : Spec := S_divisors
def S__law_are_seats_right : Spec := fun J ds q => ∃ a vs, ds = [.tk a, tuI vs] ∧ IsHand J a ∧ VOk vs ∧ q (.bl true)
def S__law_lost : Spec := S_lost_seat
end DL

namespace DL
open PySem PySem.Spec PyProof.Rows L2

structure Glo (K : PySem.W.Frag) (mg : Str → Option Value) : Prop where
  b_abs : mg "abs" = none
  b_all : mg "all" = none
  b_any : mg "any" = none
  b_bool : mg "bool" = none
  b_enumerate : mg "enumerate" = none
  b_int : mg "int" = none
  b_isinstance : mg "isinstance" = none
  b_len : mg "len" = none
  b_max : mg "max" = none
  b_min : mg "min" = none
  b_range : mg "range" = none
  b_repr : mg "repr" = none
  b_sorted : mg "sorted" = none
  b_str : mg "str" = none
  b_sum : mg "sum" = none
  b_tuple : mg "tuple" = none
  b_zip : mg "zip" = none
  c_MOST_LOOKED : ∃ t, mg "MOST_LOOKED" = some (.int 100 t)
  c_MOST_PARTIES : ∃ t, mg "MOST_PARTIES" = some (.int 6 t)
  c_MOST_SEATS : ∃ t, mg "MOST_SEATS" = some (.int 200 t)
  t_RULES : ∃ a, mg "RULES" = some (.ref a) ∧ ∀ F : Hp, Is K mg F (.ref a) (.tup [.str "first", .str "middle", .str "up", .str "rest"])

/-! ### is_integer: slots 0 thing -/
abbrev st_is_integer : Stmt := topS 1
abbrev N_is_integer : List Str := ["thing"]
theorem sc_is_integer : FnScope N_is_integer ["thing"] (defScope st_is_integer) := ⟨rfl, rfl, rfl, by decide +kernel, rfl, by decide +kernel, by decide +kernel⟩
def w_is_integer (J : GJ) : WS := sRet (wAnd (wPr oIsi (wCons (wB 0) (wCons (wOf (wC (.ty "int"))) wNil))) (wNot (wPr oIsi (wCons (wB 0) (wCons (wOf (wC (.ty "bool"))) wNil)))))
theorem b_is_integer {g : Bool} {P : Program} {w : World} {K : PySem.W.Frag} {mg : Str → Option Value} {base : Heap} (G : Glo K mg)  (J : GJ) {fa : Addr} {cd : Value} {A : Around} {outer : List Env} {s : Shared} {H : Hp} {E : XK} (hr : Rm g 0 (A.deeper (envOfC "is_integer" (defScope st_is_integer) s.heap.objs.size fa cd))) :
    DSs (cxOf L2.CX0 P w K mg base N_is_integer "is_integer" (defScope st_is_integer) fa cd A outer s H E).nox J (defBody st_is_integer) (w_is_integer J) := by
  have nd : N_is_integer.Nodup := sc_is_integer.nd
  have u64 := hr.rm.units
  have u65 : (A.deeper (envOfC "is_integer" (defScope st_is_integer) s.heap.objs.size fa cd)).units + 65 < cLine := by have := hr.rm.un; omega
  have u1 : (A.deeper (envOfC "is_integer" (defScope st_is_integer) s.heap.objs.size fa cd)).units + 1 < cLine := by have := hr.rm.un; omega
  exact (dss_one (ds_ret (de_and (de_callB cd_isi (by rfl) G.b_isinstance PyProof.Rows.boot_isinstance (da_cons (db_var 0 (pv 0)) (da_cons (db_of (de_ty rfl G.b_int PyProof.Rows.boot_int)) da_nil))) (de_one (de_not (de_callB cd_isi (by rfl) G.b_isinstance PyProof.Rows.boot_isinstance (da_cons (db_var 0 (pv 0)) (da_cons (db_of (de_ty rfl G.b_bool PyProof.Rows.boot_bool)) da_nil))))))))
theorem c_is_integer {g : Bool} {P : Program} {w : World} {K : PySem.W.Frag} {mg : Str → Option Value} {base : Heap} (G : Glo K mg)  {f : Addr} {fd : FuncData} (Fu : L2.Fun K "is_integer" "is_integer" st_is_integer f fd) (hm : mg "is_integer" = some (.ref f)) (hb : Binds K fd ["thing"] []) (ver : ∀ (J : GJ) (ds : List D) (q : D → Prop), ds.length = 1 → S_is_integer J ds q → w_is_integer J (startE N_is_integer ds) { nx := fun _ => q .non, rt := fun d _ => q d }) : CalG g P w K mg base 1 "is_integer" S_is_integer 1 :=
  cal_D Fu sc_is_integer hm hb (fun J cd A outer s H E hr => b_is_integer G  J hr) ver

/-! ### is_within: slots 0 thing, 1 least, 2 most -/
abbrev st_is_within : Stmt := topS 2
abbrev N_is_within : List Str := ["thing", "least", "most"]
theorem sc_is_within : FnScope N_is_within ["thing", "least", "most"] (defScope st_is_within) := ⟨rfl, rfl, rfl, by decide +kernel, rfl, by decide +kernel, by decide +kernel⟩
def w_is_within (J : GJ) : WS := sRet (wAnd (wCall J S_is_integer 1 (wCons (wOf (wVar 0)) wNil)) (wChain oLe oLe (wB 1) (wB 0) (wB 2)))
theorem b_is_within {g : Bool} {P : Program} {w : World} {K : PySem.W.Frag} {mg : Str → Option Value} {base : Heap} (G : Glo K mg) (c_is_integer : CalG g P w K mg base 1 "is_integer" S_is_integer 1) (J : GJ) {fa : Addr} {cd : Value} {A : Around} {outer : List Env} {s : Shared} {H : Hp} {E : XK} (hr : Rm g 1 (A.deeper (envOfC "is_within" (defScope st_is_within) s.heap.objs.size fa cd))) :
    DSs (cxOf L2.CX0 P w K mg base N_is_within "is_within" (defScope st_is_within) fa cd A outer s H E).nox J (defBody st_is_within) (w_is_within J) := by
  have nd : N_is_within.Nodup := sc_is_within.nd
  have u64 := hr.rm.units
  have u65 : (A.deeper (envOfC "is_within" (defScope st_is_within) s.heap.objs.size fa cd)).units + 65 < cLine := by have := hr.rm.un; omega
  have u1 : (A.deeper (envOfC "is_within" (defScope st_is_within) s.heap.objs.size fa cd)).units + 1 < cLine := by have := hr.rm.un; omega
  exact (dss_one (ds_ret (de_and (de_call c_is_integer hr (by decide) (by rfl) (da_cons (db_of (de_var 0 (pv 0))) da_nil)) (de_one (de_chain od_le od_le (db_var 1 (pv 1)) (db_var 0 (pv 0)) (db_var 2 (pv 2)))))))
theorem c_is_within {g : Bool} {P : Program} {w : World} {K : PySem.W.Frag} {mg : Str → Option Value} {base : Heap} (G : Glo K mg) (c_is_integer : CalG g P w K mg base 1 "is_integer" S_is_integer 1) {f : Addr} {fd : FuncData} (Fu : L2.Fun K "is_within" "is_within" st_is_within f fd) (hm : mg "is_within" = some (.ref f)) (hb : Binds K fd ["thing", "least", "most"] []) (ver : ∀ (J : GJ) (ds : List D) (q : D → Prop), ds.length = 3 → S_is_within J ds q → w_is_within J (startE N_is_within ds) { nx := fun _ => q .non, rt := fun d _ => q d }) : CalG g P w K mg base 2 "is_within" S_is_within 3 :=
  cal_D Fu sc_is_within hm hb (fun J cd A outer s H E hr => b_is_within G c_is_integer J hr) ver

/-! ### is_number: slots 0 thing -/
abbrev st_is_number : Stmt := topS 3
abbrev N_is_number : List Str := ["thing"]
theorem sc_is_number : FnScope N_is_number ["thing"] (defScope st_is_number) := ⟨rfl, rfl, rfl, by decide +kernel, rfl, by decide +kernel, by decide +kernel⟩
def w_is_number (J : GJ) : WS := sRet (wAnd (wCall J S_is_integer 1 (wCons (wOf (wVar 0)) wNil)) (w2 oGe (wB 0) (wOf (wC (.int 0)))))
theorem b_is_number {g : Bool} {P : Program} {w : World} {K : PySem.W.Frag} {mg : Str → Option Value} {base : Heap} (G : Glo K mg) (c_is_integer : CalG g P w K mg base 1 "is_integer" S_is_integer 1) (J : GJ) {fa : Addr} {cd : Value} {A : Around} {outer : List Env} {s : Shared} {H : Hp} {E : XK} (hr : Rm g 1 (A.deeper (envOfC "is_number" (defScope st_is_number) s.heap.objs.size fa cd))) :
    DSs (cxOf L2.CX0 P w K mg base N_is_number "is_number" (defScope st_is_number) fa cd A outer s H E).nox J (defBody st_is_number) (w_is_number J) := by
  have nd : N_is_number.Nodup := sc_is_number.nd
  have u64 := hr.rm.units
  have u65 : (A.deeper (envOfC "is_number" (defScope st_is_number) s.heap.objs.size fa cd)).units + 65 < cLine := by have := hr.rm.un; omega
  have u1 : (A.deeper (envOfC "is_number" (defScope st_is_number) s.heap.objs.size fa cd)).units + 1 < cLine := by have := hr.rm.un; omega
  exact (dss_one (ds_ret (de_and (de_call c_is_integer hr (by decide) (by rfl) (da_cons (db_of (de_var 0 (pv 0))) da_nil)) (de_one (de_cmp od_ge (db_var 0 (pv 0)) (db_of de_int) (by with_unfolding_all rfl))))))
theorem c_is_number {g : Bool} {P : Program} {w : World} {K : PySem.W.Frag} {mg : Str → Option Value} {base : Heap} (G : Glo K mg) (c_is_integer : CalG g P w K mg base 1 "is_integer" S_is_integer 1) {f : Addr} {fd : FuncData} (Fu : L2.Fun K "is_number" "is_number" st_is_number f fd) (hm : mg "is_number" = some (.ref f)) (hb : Binds K fd ["thing"] []) (ver : ∀ (J : GJ) (ds : List D) (q : D → Prop), ds.length = 1 → S_is_number J ds q → w_is_number J (startE N_is_number ds) { nx := fun _ => q .non, rt := fun d _ => q d }) : CalG g P w K mg base 2 "is_number" S_is_number 1 :=
  cal_D Fu sc_is_number hm hb (fun J cd A outer s H E hr => b_is_number G c_is_integer J hr) ver

/-! ### is_tuple: slots 0 thing, 1 size -/
abbrev st_is_tuple : Stmt := topS 4
abbrev N_is_tuple : List Str := ["thing", "size"]
theorem sc_is_tuple : FnScope N_is_tuple ["thing", "size"] (defScope st_is_tuple) := ⟨rfl, rfl, rfl, by decide +kernel, rfl, by decide +kernel, by decide +kernel⟩
def w_is_tuple (J : GJ) : WS := sRet (wAnd (wPr oIsi (wCons (wB 0) (wCons (wOf (wC (.ty "tuple"))) wNil))) (w2 oEq (wOf (wPr oLen (wCons (wB 0) wNil))) (wB 1)))
theorem b_is_tuple {g : Bool} {P : Program} {w : World} {K : PySem.W.Frag} {mg : Str → Option Value} {base : Heap} (G : Glo K mg)  (J : GJ) {fa : Addr} {cd : Value} {A : Around} {outer : List Env} {s : Shared} {H : Hp} {E : XK} (hr : Rm g 0 (A.deeper (envOfC "is_tuple" (defScope st_is_tuple) s.heap.objs.size fa cd))) :
    DSs (cxOf L2.CX0 P w K mg base N_is_tuple "is_tuple" (defScope st_is_tuple) fa cd A outer s H E).nox J (defBody st_is_tuple) (w_is_tuple J) := by
  have nd : N_is_tuple.Nodup := sc_is_tuple.nd
  have u64 := hr.rm.units
  have u65 : (A.deeper (envOfC "is_tuple" (defScope st_is_tuple) s.heap.objs.size fa cd)).units + 65 < cLine := by have := hr.rm.un; omega
  have u1 : (A.deeper (envOfC "is_tuple" (defScope st_is_tuple) s.heap.objs.size fa cd)).units + 1 < cLine := by have := hr.rm.un; omega
  exact (dss_one (ds_ret (de_and (de_callB cd_isi (by rfl) G.b_isinstance PyProof.Rows.boot_isinstance (da_cons (db_var 0 (pv 0)) (da_cons (db_of (de_ty rfl G.b_tuple PyProof.Rows.boot_tuple)) da_nil))) (de_one (de_cmp (od_eq u64) (db_of (de_callB cd_len (by rfl) G.b_len PySem.boot_len (da_cons (db_var 0 (pv 0)) da_nil))) (db_var 1 (pv 1)) (by with_unfolding_all rfl))))))
theorem c_is_tuple {g : Bool} {P : Program} {w : World} {K : PySem.W.Frag} {mg : Str → Option Value} {base : Heap} (G : Glo K mg)  {f : Addr} {fd : FuncData} (Fu : L2.Fun K "is_tuple" "is_tuple" st_is_tuple f fd) (hm : mg "is_tuple" = some (.ref f)) (hb : Binds K fd ["thing", "size"] []) (ver : ∀ (J : GJ) (ds : List D) (q : D → Prop), ds.length = 2 → S_is_tuple J ds q → w_is_tuple J (startE N_is_tuple ds) { nx := fun _ => q .non, rt := fun d _ => q d }) : CalG g P w K mg base 1 "is_tuple" S_is_tuple 2 :=
  cal_D Fu sc_is_tuple hm hb (fun J cd A outer s H E hr => b_is_tuple G  J hr) ver

/-! ### is_sized: slots 0 thing, 1 least, 2 most -/
abbrev st_is_sized : Stmt := topS 5
abbrev N_is_sized : List Str := ["thing", "least", "most"]
theorem sc_is_sized : FnScope N_is_sized ["thing", "least", "most"] (defScope st_is_sized) := ⟨rfl, rfl, rfl, by decide +kernel, rfl, by decide +kernel, by decide +kernel⟩
def w_is_sized (J : GJ) : WS := sRet (wAnd (wPr oIsi (wCons (wB 0) (wCons (wOf (wC (.ty "tuple"))) wNil))) (wChain oLe oLe (wB 1) (wOf (wPr oLen (wCons (wB 0) wNil))) (wB 2)))
theorem b_is_sized {g : Bool} {P : Program} {w : World} {K : PySem.W.Frag} {mg : Str → Option Value} {base : Heap} (G : Glo K mg)  (J : GJ) {fa : Addr} {cd : Value} {A : Around} {outer : List Env} {s : Shared} {H : Hp} {E : XK} (hr : Rm g 0 (A.deeper (envOfC "is_sized" (defScope st_is_sized) s.heap.objs.size fa cd))) :
    DSs (cxOf L2.CX0 P w K mg base N_is_sized "is_sized" (defScope st_is_sized) fa cd A outer s H E).nox J (defBody st_is_sized) (w_is_sized J) := by
  have nd : N_is_sized.Nodup := sc_is_sized.nd
  have u64 := hr.rm.units
  have u65 : (A.deeper (envOfC "is_sized" (defScope st_is_sized) s.heap.objs.size fa cd)).units + 65 < cLine := by have := hr.rm.un; omega
  have u1 : (A.deeper (envOfC "is_sized" (defScope st_is_sized) s.heap.objs.size fa cd)).units + 1 < cLine := by have := hr.rm.un; omega
  exact (dss_one (ds_ret (de_and (de_callB cd_isi (by rfl) G.b_isinstance PyProof.Rows.boot_isinstance (da_cons (db_var 0 (pv 0)) (da_cons (db_of (de_ty rfl G.b_tuple PyProof.Rows.boot_tuple)) da_nil))) (de_one (de_chain od_le od_le (db_var 1 (pv 1)) (db_of (de_callB cd_len (by rfl) G.b_len PySem.boot_len (da_cons (db_var 0 (pv 0)) da_nil))) (db_var 2 (pv 2)))))))
theorem c_is_sized {g : Bool} {P : Program} {w : World} {K : PySem.W.Frag} {mg : Str → Option Value} {base : Heap} (G : Glo K mg)  {f : Addr} {fd : FuncData} (Fu : L2.Fun K "is_sized" "is_sized" st_is_sized f fd) (hm : mg "is_sized" = some (.ref f)) (hb : Binds K fd ["thing", "least", "most"] []) (ver : ∀ (J : GJ) (ds : List D) (q : D → Prop), ds.length = 3 → S_is_sized J ds q → w_is_sized J (startE N_is_sized ds) { nx := fun _ => q .non, rt := fun d _ => q d }) : CalG g P w K mg base 1 "is_sized" S_is_sized 3 :=
  cal_D Fu sc_is_sized hm hb (fun J cd A outer s H E hr => b_is_sized G  J hr) ver

/-! ### divisor_of: slots 0 one, 1 other -/
abbrev st_divisor_of : Stmt := topS 13
abbrev N_divisor_of : List Str := ["one", "other"]
theorem sc_divisor_of : FnScope N_divisor_of ["one", "other"] (defScope st_divisor_of) := ⟨rfl, rfl, rfl, by decide +kernel, rfl, by decide +kernel, by decide +kernel⟩
def w_divisor_of (J : GJ) : WS := sSeq (sWhile (wTB (w2 oGt (wB 1) (wOf (wC (.int 0))))) (sPar 0 1 (wVal (wVar 1)) (wVal (w2 oMod (wB 0) (wB 1))))) (sRet (wVar 0))
theorem b_divisor_of {g : Bool} {P : Program} {w : World} {K : PySem.W.Frag} {mg : Str → Option Value} {base : Heap} (G : Glo K mg)  (J : GJ) {fa : Addr} {cd : Value} {A : Around} {outer : List Env} {s : Shared} {H : Hp} {E : XK} (hr : Rm g 0 (A.deeper (envOfC "divisor_of" (defScope st_divisor_of) s.heap.objs.size fa cd))) :
    DSs (cxOf L2.CX0 P w K mg base N_divisor_of "divisor_of" (defScope st_divisor_of) fa cd A outer s H E).nox J (defBody st_divisor_of) (w_divisor_of J) := by
  have nd : N_divisor_of.Nodup := sc_divisor_of.nd
  have u64 := hr.rm.units
  have u65 : (A.deeper (envOfC "divisor_of" (defScope st_divisor_of) s.heap.objs.size fa cd)).units + 65 < cLine := by have := hr.rm.un; omega
  have u1 : (A.deeper (envOfC "divisor_of" (defScope st_divisor_of) s.heap.objs.size fa cd)).units + 1 < cLine := by have := hr.rm.un; omega
  exact (dss_cons (ds_while PassesOwn.never (dt_cmp od_gt (db_var 1 (pv 1)) (db_of de_int) (by with_unfolding_all rfl)) (dss_one (ds_par rfl nd rfl rfl (by decide) rfl rfl (dv_of (de_var 1 (pv 1))) (dv_of (de_op od_mod (db_var 0 (pv 0)) (db_var 1 (pv 1)))) rfl))) (dss_one (ds_ret (de_var 0 (pv 0)))))
theorem c_divisor_of {g : Bool} {P : Program} {w : World} {K : PySem.W.Frag} {mg : Str → Option Value} {base : Heap} (G : Glo K mg)  {f : Addr} {fd : FuncData} (Fu : L2.Fun K "divisor_of" "divisor_of" st_divisor_of f fd) (hm : mg "divisor_of" = some (.ref f)) (hb : Binds K fd ["one", "other"] []) (ver : ∀ (J : GJ) (ds : List D) (q : D → Prop), ds.length = 2 → S_divisor_of J ds q → w_divisor_of J (startE N_divisor_of ds) { nx := fun _ => q .non, rt := fun d _ => q d }) : CalG g P w K mg base 1 "divisor_of" S_divisor_of 2 :=
  cal_D Fu sc_divisor_of hm hb (fun J cd A outer s H E hr => b_divisor_of G  J hr) ver

/-! ### lowest: slots 0 p, 1 q, 2 by -/
abbrev st_lowest : Stmt := topS 14
abbrev N_lowest : List Str := ["p", "q", "by"]
theorem sc_lowest : FnScope N_lowest ["p", "q"] (defScope st_lowest) := ⟨rfl, rfl, rfl, by decide +kernel, rfl, by decide +kernel, by decide +kernel⟩
def w_lowest (J : GJ) : WS := sSeq (sIf (wTB (w2 oLt (wB 1) (wOf (wC (.int 0))))) (sPar 0 1 (wVal (w1 oNeg (wB 0))) (wVal (w1 oNeg (wB 1)))) sNil) (sSeq (sSet 2 (wVal (wCall J S_divisor_of 2 (wCons (wOf (wPr oAbs (wCons (wB 0) wNil))) (wCons (wOf (wVar 1)) wNil))))) (sRet (wTup (wCons (wOf (w2 oDivA (wB 0) (wB 2))) (wCons (wOf (w2 oDivA (wB 1) (wB 2))) wNil)))))
theorem b_lowest {g : Bool} {P : Program} {w : World} {K : PySem.W.Frag} {mg : Str → Option Value} {base : Heap} (G : Glo K mg) (c_divisor_of : CalG g P w K mg base 1 "divisor_of" S_divisor_of 2) (J : GJ) {fa : Addr} {cd : Value} {A : Around} {outer : List Env} {s : Shared} {H : Hp} {E : XK} (hr : Rm g 1 (A.deeper (envOfC "lowest" (defScope st_lowest) s.heap.objs.size fa cd))) :
    DSs (cxOf L2.CX0 P w K mg base N_lowest "lowest" (defScope st_lowest) fa cd A outer s H E).nox J (defBody st_lowest) (w_lowest J) := by
  have nd : N_lowest.Nodup := sc_lowest.nd
  have u64 := hr.rm.units
  have u65 : (A.deeper (envOfC "lowest" (defScope st_lowest) s.heap.objs.size fa cd)).units + 65 < cLine := by have := hr.rm.un; omega
  have u1 : (A.deeper (envOfC "lowest" (defScope st_lowest) s.heap.objs.size fa cd)).units + 1 < cLine := by have := hr.rm.un; omega
  exact (dss_cons (ds_if (dt_cmp od_lt (db_var 1 (pv 1)) (db_of de_int) (by with_unfolding_all rfl)) (dss_one (ds_par rfl nd rfl rfl (by decide) rfl rfl (dv_of (de_un ud_neg (db_var 0 (pv 0)))) (dv_of (de_un ud_neg (db_var 1 (pv 1)))) rfl)) dss_nil) (dss_cons (ds_set nd rfl (by first | exact .inl rfl | exact .inr rfl) (dv_of (de_call c_divisor_of hr (by decide) (by rfl) (da_cons (db_of (de_callB cd_abs (by rfl) G.b_abs PyProof.Rows.boot_abs (da_cons (db_var 0 (pv 0)) da_nil))) (da_cons (db_of (de_var 1 (pv 1))) da_nil))))) (dss_one (ds_ret (de_tup (da_cons (db_of (de_op od_divA (db_var 0 (pv 0)) (db_var 2 (pv 2)))) (da_cons (db_of (de_op od_divA (db_var 1 (pv 1)) (db_var 2 (pv 2)))) da_nil)))))))
theorem c_lowest {g : Bool} {P : Program} {w : World} {K : PySem.W.Frag} {mg : Str → Option Value} {base : Heap} (G : Glo K mg) (c_divisor_of : CalG g P w K mg base 1 "divisor_of" S_divisor_of 2) {f : Addr} {fd : FuncData} (Fu : L2.Fun K "lowest" "lowest" st_lowest f fd) (hm : mg "lowest" = some (.ref f)) (hb : Binds K fd ["p", "q"] []) (ver : ∀ (J : GJ) (ds : List D) (q : D → Prop), ds.length = 2 → S_lowest J ds q → w_lowest J (startE N_lowest ds) { nx := fun _ => q .non, rt := fun d _ => q d }) : CalG g P w K mg base 2 "lowest" S_lowest 2 :=
  cal_D Fu sc_lowest hm hb (fun J cd A outer s H E hr => b_lowest G c_divisor_of J hr) ver

/-! ### is_below: slots 0 one, 1 other -/
abbrev st_is_below : Stmt := topS 15
abbrev N_is_below : List Str := ["one", "other"]
theorem sc_is_below : FnScope N_is_below ["one", "other"] (defScope st_is_below) := ⟨rfl, rfl, rfl, by decide +kernel, rfl, by decide +kernel, by decide +kernel⟩
def w_is_below (J : GJ) : WS := sRet (w2 oLt (wOf (w2 oMulA (wOf (w2 oIx (wB 0) (wOf (wC (.int 0))))) (wOf (w2 oIx (wB 1) (wOf (wC (.int 1))))))) (wOf (w2 oMulA (wOf (w2 oIx (wB 1) (wOf (wC (.int 0))))) (wOf (w2 oIx (wB 0) (wOf (wC (.int 1))))))))
theorem b_is_below {g : Bool} {P : Program} {w : World} {K : PySem.W.Frag} {mg : Str → Option Value} {base : Heap} (G : Glo K mg)  (J : GJ) {fa : Addr} {cd : Value} {A : Around} {outer : List Env} {s : Shared} {H : Hp} {E : XK} (hr : Rm g 0 (A.deeper (envOfC "is_below" (defScope st_is_below) s.heap.objs.size fa cd))) :
    DSs (cxOf L2.CX0 P w K mg base N_is_below "is_below" (defScope st_is_below) fa cd A outer s H E).nox J (defBody st_is_below) (w_is_below J) := by
  have nd : N_is_below.Nodup := sc_is_below.nd
  have u64 := hr.rm.units
  have u65 : (A.deeper (envOfC "is_below" (defScope st_is_below) s.heap.objs.size fa cd)).units + 65 < cLine := by have := hr.rm.un; omega
  have u1 : (A.deeper (envOfC "is_below" (defScope st_is_below) s.heap.objs.size fa cd)).units + 1 < cLine := by have := hr.rm.un; omega
  exact (dss_one (ds_ret (de_cmp od_lt (db_of (de_op od_mulA (db_of (de_ix od_ix (db_var 0 (pv 0)) (db_of de_int) (fun _ _ => rfl))) (db_of (de_ix od_ix (db_var 1 (pv 1)) (db_of de_int) (fun _ _ => rfl))))) (db_of (de_op od_mulA (db_of (de_ix od_ix (db_var 1 (pv 1)) (db_of de_int) (fun _ _ => rfl))) (db_of (de_ix od_ix (db_var 0 (pv 0)) (db_of de_int) (fun _ _ => rfl))))) (by with_unfolding_all rfl))))
theorem c_is_below {g : Bool} {P : Program} {w : World} {K : PySem.W.Frag} {mg : Str → Option Value} {base : Heap} (G : Glo K mg)  {f : Addr} {fd : FuncData} (Fu : L2.Fun K "is_below" "is_below" st_is_below f fd) (hm : mg "is_below" = some (.ref f)) (hb : Binds K fd ["one", "other"] []) (ver : ∀ (J : GJ) (ds : List D) (q : D → Prop), ds.length = 2 → S_is_below J ds q → w_is_below J (startE N_is_below ds) { nx := fun _ => q .non, rt := fun d _ => q d }) : CalG g P w K mg base 1 "is_below" S_is_below 2 :=
  cal_D Fu sc_is_below hm hb (fun J cd A outer s H E hr => b_is_below G  J hr) ver

/-! ### is_most: slots 0 one, 1 other -/
abbrev st_is_most : Stmt := topS 16
abbrev N_is_most : List Str := ["one", "other"]
theorem sc_is_most : FnScope N_is_most ["one", "other"] (defScope st_is_most) := ⟨rfl, rfl, rfl, by decide +kernel, rfl, by decide +kernel, by decide +kernel⟩
def w_is_most (J : GJ) : WS := sRet (w2 oLe (wOf (w2 oMulA (wOf (w2 oIx (wB 0) (wOf (wC (.int 0))))) (wOf (w2 oIx (wB 1) (wOf (wC (.int 1))))))) (wOf (w2 oMulA (wOf (w2 oIx (wB 1) (wOf (wC (.int 0))))) (wOf (w2 oIx (wB 0) (wOf (wC (.int 1))))))))
theorem b_is_most {g : Bool} {P : Program} {w : World} {K : PySem.W.Frag} {mg : Str → Option Value} {base : Heap} (G : Glo K mg)  (J : GJ) {fa : Addr} {cd : Value} {A : Around} {outer : List Env} {s : Shared} {H : Hp} {E : XK} (hr : Rm g 0 (A.deeper (envOfC "is_most" (defScope st_is_most) s.heap.objs.size fa cd))) :
    DSs (cxOf L2.CX0 P w K mg base N_is_most "is_most" (defScope st_is_most) fa cd A outer s H E).nox J (defBody st_is_most) (w_is_most J) := by
  have nd : N_is_most.Nodup := sc_is_most.nd
  have u64 := hr.rm.units
  have u65 : (A.deeper (envOfC "is_most" (defScope st_is_most) s.heap.objs.size fa cd)).units + 65 < cLine := by have := hr.rm.un; omega
  have u1 : (A.deeper (envOfC "is_most" (defScope st_is_most) s.heap.objs.size fa cd)).units + 1 < cLine := by have := hr.rm.un; omega
  exact (dss_one (ds_ret (de_cmp od_le (db_of (de_op od_mulA (db_of (de_ix od_ix (db_var 0 (pv 0)) (db_of de_int) (fun _ _ => rfl))) (db_of (de_ix od_ix (db_var 1 (pv 1)) (db_of de_int) (fun _ _ => rfl))))) (db_of (de_op od_mulA (db_of (de_ix od_ix (db_var 1 (pv 1)) (db_of de_int) (fun _ _ => rfl))) (db_of (de_ix od_ix (db_var 0 (pv 0)) (db_of de_int) (fun _ _ => rfl))))) (by with_unfolding_all rfl))))
theorem c_is_most {g : Bool} {P : Program} {w : World} {K : PySem.W.Frag} {mg : Str → Option Value} {base : Heap} (G : Glo K mg)  {f : Addr} {fd : FuncData} (Fu : L2.Fun K "is_most" "is_most" st_is_most f fd) (hm : mg "is_most" = some (.ref f)) (hb : Binds K fd ["one", "other"] []) (ver : ∀ (J : GJ) (ds : List D) (q : D → Prop), ds.length = 2 → S_is_most J ds q → w_is_most J (startE N_is_most ds) { nx := fun _ => q .non, rt := fun d _ => q d }) : CalG g P w K mg base 1 "is_most" S_is_most 2 :=
  cal_D Fu sc_is_most hm hb (fun J cd A outer s H E hr => b_is_most G  J hr) ver

/-! ### greatest: slots 0 fractions, 1 found, 2 one -/
abbrev st_greatest : Stmt := topS 17
abbrev N_greatest : List Str := ["fractions", "found", "one"]
theorem sc_greatest : FnScope N_greatest ["fractions"] (defScope st_greatest) := ⟨rfl, rfl, rfl, by decide +kernel, rfl, by decide +kernel, by decide +kernel⟩
def w_greatest (J : GJ) : WS := sSeq (sSet 1 (wVal (w2 oIx (wB 0) (wOf (wC (.int 0)))))) (sSeq (sFor (wIs (wSl oSl (wB 0) (wOSome (wC (.int 1))) wONone)) (gN 2) (sIf (wTB (wCall J S_is_below 2 (wCons (wOf (wVar 1)) (wCons (wOf (wVar 2)) wNil)))) (sSet 1 (wVal (wVar 2))) sNil)) (sRet (wVar 1)))
theorem b_greatest {g : Bool} {P : Program} {w : World} {K : PySem.W.Frag} {mg : Str → Option Value} {base : Heap} (G : Glo K mg) (c_is_below : CalG g P w K mg base 1 "is_below" S_is_below 2) (J : GJ) {fa : Addr} {cd : Value} {A : Around} {outer : List Env} {s : Shared} {H : Hp} {E : XK} (hr : Rm g 1 (A.deeper (envOfC "greatest" (defScope st_greatest) s.heap.objs.size fa cd))) :
    DSs (cxOf L2.CX0 P w K mg base N_greatest "greatest" (defScope st_greatest) fa cd A outer s H E).nox J (defBody st_greatest) (w_greatest J) := by
  have nd : N_greatest.Nodup := sc_greatest.nd
  have u64 := hr.rm.units
  have u65 : (A.deeper (envOfC "greatest" (defScope st_greatest) s.heap.objs.size fa cd)).units + 65 < cLine := by have := hr.rm.un; omega
  have u1 : (A.deeper (envOfC "greatest" (defScope st_greatest) s.heap.objs.size fa cd)).units + 1 < cLine := by have := hr.rm.un; omega
  exact (dss_cons (ds_set nd rfl (by first | exact .inl rfl | exact .inr rfl) (dv_of (de_ix od_ix (db_var 0 (pv 0)) (db_of de_int) (fun _ _ => rfl)))) (dss_cons (ds_for PassesOwn.never rfl (di_seq (de_sl od_sl (db_var 0 (pv 0)) (do_some de_int) do_none)) (dg_name 2 (L2.pg_name nd rfl (by first | exact .inl rfl | exact .inr rfl))) (dss_one (ds_if (dt_val (de_call c_is_below hr (by decide) (by rfl) (da_cons (db_of (de_var 1 (pv 1))) (da_cons (db_of (de_var 2 (pv 2))) da_nil)))) (dss_one (ds_set nd rfl (by first | exact .inl rfl | exact .inr rfl) (dv_of (de_var 2 (pv 2))))) dss_nil))) (dss_one (ds_ret (de_var 1 (pv 1))))))
theorem c_greatest {g : Bool} {P : Program} {w : World} {K : PySem.W.Frag} {mg : Str → Option Value} {base : Heap} (G : Glo K mg) (c_is_below : CalG g P w K mg base 1 "is_below" S_is_below 2) {f : Addr} {fd : FuncData} (Fu : L2.Fun K "greatest" "greatest" st_greatest f fd) (hm : mg "greatest" = some (.ref f)) (hb : Binds K fd ["fractions"] []) (ver : ∀ (J : GJ) (ds : List D) (q : D → Prop), ds.length = 1 → S_greatest J ds q → w_greatest J (startE N_greatest ds) { nx := fun _ => q .non, rt := fun d _ => q d }) : CalG g P w K mg base 2 "greatest" S_greatest 1 :=
  cal_D Fu sc_greatest hm hb (fun J cd A outer s H E hr => b_greatest G c_is_below J hr) ver

/-! ### least: slots 0 fractions, 1 found, 2 one -/
abbrev st_least : Stmt := topS 18
abbrev N_least : List Str := ["fractions", "found", "one"]
theorem sc_least : FnScope N_least ["fractions"] (defScope st_least) := ⟨rfl, rfl, rfl, by decide +kernel, rfl, by decide +kernel, by decide +kernel⟩
def w_least (J : GJ) : WS := sSeq (sSet 1 (wVal (w2 oIx (wB 0) (wOf (wC (.int 0)))))) (sSeq (sFor (wIs (wSl oSl (wB 0) (wOSome (wC (.int 1))) wONone)) (gN 2) (sIf (wTB (wCall J S_is_below 2 (wCons (wOf (wVar 2)) (wCons (wOf (wVar 1)) wNil)))) (sSet 1 (wVal (wVar 2))) sNil)) (sRet (wVar 1)))
theorem b_least {g : Bool} {P : Program} {w : World} {K : PySem.W.Frag} {mg : Str → Option Value} {base : Heap} (G : Glo K mg) (c_is_below : CalG g P w K mg base 1 "is_below" S_is_below 2) (J : GJ) {fa : Addr} {cd : Value} {A : Around} {outer : List Env} {s : Shared} {H : Hp} {E : XK} (hr : Rm g 1 (A.deeper (envOfC "least" (defScope st_least) s.heap.objs.size fa cd))) :
    DSs (cxOf L2.CX0 P w K mg base N_least "least" (defScope st_least) fa cd A outer s H E).nox J (defBody st_least) (w_least J) := by
  have nd : N_least.Nodup := sc_least.nd
  have u64 := hr.rm.units
  have u65 : (A.deeper (envOfC "least" (defScope st_least) s.heap.objs.size fa cd)).units + 65 < cLine := by have := hr.rm.un; omega
  have u1 : (A.deeper (envOfC "least" (defScope st_least) s.heap.objs.size fa cd)).units + 1 < cLine := by have := hr.rm.un; omega
  exact (dss_cons (ds_set nd rfl (by first | exact .inl rfl | exact .inr rfl) (dv_of (de_ix od_ix (db_var 0 (pv 0)) (db_of de_int) (fun _ _ => rfl)))) (dss_cons (ds_for PassesOwn.never rfl (di_seq (de_sl od_sl (db_var 0 (pv 0)) (do_some de_int) do_none)) (dg_name 2 (L2.pg_name nd rfl (by first | exact .inl rfl | exact .inr rfl))) (dss_one (ds_if (dt_val (de_call c_is_below hr (by decide) (by rfl) (da_cons (db_of (de_var 2 (pv 2))) (da_cons (db_of (de_var 1 (pv 1))) da_nil)))) (dss_one (ds_set nd rfl (by first | exact .inl rfl | exact .inr rfl) (dv_of (de_var 2 (pv 2))))) dss_nil))) (dss_one (ds_ret (de_var 1 (pv 1))))))
theorem c_least {g : Bool} {P : Program} {w : World} {K : PySem.W.Frag} {mg : Str → Option Value} {base : Heap} (G : Glo K mg) (c_is_below : CalG g P w K mg base 1 "is_below" S_is_below 2) {f : Addr} {fd : FuncData} (Fu : L2.Fun K "least" "least" st_least f fd) (hm : mg "least" = some (.ref f)) (hb : Binds K fd ["fractions"] []) (ver : ∀ (J : GJ) (ds : List D) (q : D → Prop), ds.length = 1 → S_least J ds q → w_least J (startE N_least ds) { nx := fun _ => q .non, rt := fun d _ => q d }) : CalG g P w K mg base 2 "least" S_least 1 :=
  cal_D Fu sc_least hm hb (fun J cd A outer s H E hr => b_least G c_is_below J hr) ver

/-! ### check_votes: slots 0 thing, 1 one -/
abbrev st_check_votes : Stmt := topS 24
abbrev N_check_votes : List Str := ["thing", "one"]
theorem sc_check_votes : FnScope N_check_votes ["thing"] (defScope st_check_votes) := ⟨rfl, rfl, rfl, by decide +kernel, rfl, by decide +kernel, by decide +kernel⟩
def w_check_votes (J : GJ) : WS := sIf (wTOr (wTNot (wTB (wCall J S_is_sized 3 (wCons (wOf (wVar 0)) (wCons (wOf (wC (.int 1))) (wCons (wOf (wC (.int 6))) wNil)))))) (wTOr (wTNot (wTB (wPr oAll (wCons (wOf (wLC [1] (wIs (wVar 0)) (gN 1) wYes (wCall J S_is_number 1 (wCons (wOf (wVar 1)) wNil)))) wNil)))) (wTB (w2 oEq (wOf (wPr oSumA (wCons (wB 0) wNil))) (wOf (wC (.int 0))))))) sNever sNil
theorem b_check_votes {g : Bool} {P : Program} {w : World} {K : PySem.W.Frag} {mg : Str → Option Value} {base : Heap} (G : Glo K mg) (c_is_sized : CalG g P w K mg base 1 "is_sized" S_is_sized 3) (c_is_number : CalG g P w K mg base 2 "is_number" S_is_number 1) (J : GJ) {fa : Addr} {cd : Value} {A : Around} {outer : List Env} {s : Shared} {H : Hp} {E : XK} (hr : Rm g 2 (A.deeper (envOfC "check_votes" (defScope st_check_votes) s.heap.objs.size fa cd))) :
    DSs (cxOf L2.CX0 P w K mg base N_check_votes "check_votes" (defScope st_check_votes) fa cd A outer s H E).nox J (defBody st_check_votes) (w_check_votes J) := by
  have nd : N_check_votes.Nodup := sc_check_votes.nd
  have u64 := hr.rm.units
  have u65 : (A.deeper (envOfC "check_votes" (defScope st_check_votes) s.heap.objs.size fa cd)).units + 65 < cLine := by have := hr.rm.un; omega
  have u1 : (A.deeper (envOfC "check_votes" (defScope st_check_votes) s.heap.objs.size fa cd)).units + 1 < cLine := by have := hr.rm.un; omega
  exact (dss_one (ds_if (dt_of (dw_or (dt_not (dt_val (de_call c_is_sized hr (by decide) (by rfl) (da_cons (db_of (de_var 0 (pv 0))) (da_cons (db_of de_int) (da_cons (db_of (de_gi rfl G.c_MOST_PARTIES)) da_nil)))))) (dw_or (dt_not (dt_val (de_callB (cd_all rfl) (by rfl) G.b_all PyProof.Rows.boot_all (da_cons (db_of (de_lc rfl nd (di_seq (de_var 0 (pv 0))) (blkOk_by (own := [("one", 1)]) (by kernel_rfl)) (fun _ _ _ _ _ => (dg_name 1 (L2.pg_name nd rfl (by first | exact .inl rfl | exact .inr rfl)))) (fun _ _ _ _ _ => dts_nil) (fun _ _ _ _ _ => (de_call c_is_number hr (by decide) (by rfl) (da_cons (db_of (de_var 1 (pv 1))) da_nil))))) da_nil)))) (dw_or1 (dt_cmp (od_eq u64) (db_of (de_callB (cd_sumA rfl) (by rfl) G.b_sum PyProof.Rows.boot_sum (da_cons (db_var 0 (pv 0)) da_nil))) (db_of de_int) (by with_unfolding_all rfl)))))) (dss_one ds_never) dss_nil))
theorem c_check_votes {g : Bool} {P : Program} {w : World} {K : PySem.W.Frag} {mg : Str → Option Value} {base : Heap} (G : Glo K mg) (c_is_sized : CalG g P w K mg base 1 "is_sized" S_is_sized 3) (c_is_number : CalG g P w K mg base 2 "is_number" S_is_number 1) {f : Addr} {fd : FuncData} (Fu : L2.Fun K "check_votes" "check_votes" st_check_votes f fd) (hm : mg "check_votes" = some (.ref f)) (hb : Binds K fd ["thing"] []) (ver : ∀ (J : GJ) (ds : List D) (q : D → Prop), ds.length = 1 → S_check_votes J ds q → w_check_votes J (startE N_check_votes ds) { nx := fun _ => q .non, rt := fun d _ => q d }) : CalG g P w K mg base 3 "check_votes" S_check_votes 1 :=
  cal_D Fu sc_check_votes hm hb (fun J cd A outer s H E hr => b_check_votes G c_is_sized c_is_number J hr) ver

/-! ### is_ahead: slots 0 one, 1 other, 2 mine, 3 its -/
abbrev st_is_ahead : Stmt := topS 25
abbrev N_is_ahead : List Str := ["one", "other", "mine", "its"]
theorem sc_is_ahead : FnScope N_is_ahead ["one", "other"] (defScope st_is_ahead) := ⟨rfl, rfl, rfl, by decide +kernel, rfl, by decide +kernel, by decide +kernel⟩
def w_is_ahead (J : GJ) : WS := sSeq (sPar 0 1 (wVal (wIf (wTB (w2 oGt (wOf (w2 oIx (wB 0) (wOf (wC (.int 0))))) (wOf (wC (.int 0))))) (wVar 0) (wTup (wCons (wOf (wC (.int 0))) (wCons (wOf (wC (.int 1))) wNil))))) (wVal (wIf (wTB (w2 oGt (wOf (w2 oIx (wB 1) (wOf (wC (.int 0))))) (wOf (wC (.int 0))))) (wVar 1) (wTup (wCons (wOf (wC (.int 0))) (wCons (wOf (wC (.int 1))) wNil)))))) (sSeq (sPar 2 3 (wVal (w2 oMulA (wOf (w2 oIx (wB 0) (wOf (wC (.int 0))))) (wOf (w2 oIx (wB 1) (wOf (wC (.int 1))))))) (wVal (w2 oMulA (wOf (w2 oIx (wB 1) (wOf (wC (.int 0))))) (wOf (w2 oIx (wB 0) (wOf (wC (.int 1)))))))) (sSeq (sIf (wTAnd (wTB (w2 oEq (wOf (w2 oIx (wB 0) (wOf (wC (.int 1))))) (wOf (wC (.int 0))))) (wTB (w2 oEq (wOf (w2 oIx (wB 1) (wOf (wC (.int 1))))) (wOf (wC (.int 0)))))) (sRet (w2 oGt (wOf (w2 oIx (wB 0) (wOf (wC (.int 0))))) (wOf (w2 oIx (wB 1) (wOf (wC (.int 0))))))) sNil) (sSeq (sIf (wTOr (wTB (w2 oEq (wOf (w2 oIx (wB 0) (wOf (wC (.int 1))))) (wOf (wC (.int 0))))) (wTB (w2 oEq (wOf (w2 oIx (wB 1) (wOf (wC (.int 1))))) (wOf (wC (.int 0)))))) (sRet (w2 oEq (wOf (w2 oIx (wB 0) (wOf (wC (.int 1))))) (wOf (wC (.int 0))))) sNil) (sRet (w2 oGt (wB 2) (wB 3))))))
theorem b_is_ahead {g : Bool} {P : Program} {w : World} {K : PySem.W.Frag} {mg : Str → Option Value} {base : Heap} (G : Glo K mg)  (J : GJ) {fa : Addr} {cd : Value} {A : Around} {outer : List Env} {s : Shared} {H : Hp} {E : XK} (hr : Rm g 0 (A.deeper (envOfC "is_ahead" (defScope st_is_ahead) s.heap.objs.size fa cd))) :
    DSs (cxOf L2.CX0 P w K mg base N_is_ahead "is_ahead" (defScope st_is_ahead) fa cd A outer s H E).nox J (defBody st_is_ahead) (w_is_ahead J) := by
  have nd : N_is_ahead.Nodup := sc_is_ahead.nd
  have u64 := hr.rm.units
  have u65 : (A.deeper (envOfC "is_ahead" (defScope st_is_ahead) s.heap.objs.size fa cd)).units + 65 < cLine := by have := hr.rm.un; omega
  have u1 : (A.deeper (envOfC "is_ahead" (defScope st_is_ahead) s.heap.objs.size fa cd)).units + 1 < cLine := by have := hr.rm.un; omega
  exact (dss_cons (ds_par rfl nd rfl rfl (by decide) rfl rfl (dv_of (de_if (dt_cmp od_gt (db_of (de_ix od_ix (db_var 0 (pv 0)) (db_of de_int) (fun _ _ => rfl))) (db_of de_int) (by with_unfolding_all rfl)) (de_var 0 (pv 0)) (de_tup (da_cons (db_of de_int) (da_cons (db_of de_int) da_nil))))) (dv_of (de_if (dt_cmp od_gt (db_of (de_ix od_ix (db_var 1 (pv 1)) (db_of de_int) (fun _ _ => rfl))) (db_of de_int) (by with_unfolding_all rfl)) (de_var 1 (pv 1)) (de_tup (da_cons (db_of de_int) (da_cons (db_of de_int) da_nil))))) rfl) (dss_cons (ds_par rfl nd rfl rfl (by decide) rfl rfl (dv_of (de_op od_mulA (db_of (de_ix od_ix (db_var 0 (pv 0)) (db_of de_int) (fun _ _ => rfl))) (db_of (de_ix od_ix (db_var 1 (pv 1)) (db_of de_int) (fun _ _ => rfl))))) (dv_of (de_op od_mulA (db_of (de_ix od_ix (db_var 1 (pv 1)) (db_of de_int) (fun _ _ => rfl))) (db_of (de_ix od_ix (db_var 0 (pv 0)) (db_of de_int) (fun _ _ => rfl))))) rfl) (dss_cons (ds_if (dt_of (dw_and (dt_cmp (od_eq u64) (db_of (de_ix od_ix (db_var 0 (pv 0)) (db_of de_int) (fun _ _ => rfl))) (db_of de_int) (by with_unfolding_all rfl)) (dw_and1 (dt_cmp (od_eq u64) (db_of (de_ix od_ix (db_var 1 (pv 1)) (db_of de_int) (fun _ _ => rfl))) (db_of de_int) (by with_unfolding_all rfl))))) (dss_one (ds_ret (de_cmp od_gt (db_of (de_ix od_ix (db_var 0 (pv 0)) (db_of de_int) (fun _ _ => rfl))) (db_of (de_ix od_ix (db_var 1 (pv 1)) (db_of de_int) (fun _ _ => rfl))) (by with_unfolding_all rfl)))) dss_nil) (dss_cons (ds_if (dt_of (dw_or (dt_cmp (od_eq u64) (db_of (de_ix od_ix (db_var 0 (pv 0)) (db_of de_int) (fun _ _ => rfl))) (db_of de_int) (by with_unfolding_all rfl)) (dw_or1 (dt_cmp (od_eq u64) (db_of (de_ix od_ix (db_var 1 (pv 1)) (db_of de_int) (fun _ _ => rfl))) (db_of de_int) (by with_unfolding_all rfl))))) (dss_one (ds_ret (de_cmp (od_eq u64) (db_of (de_ix od_ix (db_var 0 (pv 0)) (db_of de_int) (fun _ _ => rfl))) (db_of de_int) (by with_unfolding_all rfl)))) dss_nil) (dss_one (ds_ret (de_cmp od_gt (db_var 2 (pv 2)) (db_var 3 (pv 3)) (by with_unfolding_all rfl))))))))
theorem c_is_ahead {g : Bool} {P : Program} {w : World} {K : PySem.W.Frag} {mg : Str → Option Value} {base : Heap} (G : Glo K mg)  {f : Addr} {fd : FuncData} (Fu : L2.Fun K "is_ahead" "is_ahead" st_is_ahead f fd) (hm : mg "is_ahead" = some (.ref f)) (hb : Binds K fd ["one", "other"] []) (ver : ∀ (J : GJ) (ds : List D) (q : D → Prop), ds.length = 2 → S_is_ahead J ds q → w_is_ahead J (startE N_is_ahead ds) { nx := fun _ => q .non, rt := fun d _ => q d }) : CalG g P w K mg base 1 "is_ahead" S_is_ahead 2 :=
  cal_D Fu sc_is_ahead hm hb (fun J cd A outer s H E hr => b_is_ahead G  J hr) ver

/-! ### step_of: slots 0 rule, 1 had -/
abbrev st_step_of : Stmt := topS 26
abbrev N_step_of : List Str := ["rule", "had"]
theorem sc_step_of : FnScope N_step_of ["rule", "had"] (defScope st_step_of) := ⟨rfl, rfl, rfl, by decide +kernel, rfl, by decide +kernel, by decide +kernel⟩
def w_step_of (J : GJ) : WS := sSeq (sIf (wTB (w2 oEq (wB 0) (wOf (wC (.str "first"))))) (sRet (w2 oAdd (wB 1) (wOf (wC (.int 1))))) sNil) (sRet (wIf (wTB (w2 oEq (wB 0) (wOf (wC (.str "middle"))))) (w2 oAdd (wOf (w2 oMulA (wOf (wC (.int 2))) (wB 1))) (wOf (wC (.int 1)))) (wVar 1)))
theorem b_step_of {g : Bool} {P : Program} {w : World} {K : PySem.W.Frag} {mg : Str → Option Value} {base : Heap} (G : Glo K mg)  (J : GJ) {fa : Addr} {cd : Value} {A : Around} {outer : List Env} {s : Shared} {H : Hp} {E : XK} (hr : Rm g 0 (A.deeper (envOfC "step_of" (defScope st_step_of) s.heap.objs.size fa cd))) :
    DSs (cxOf L2.CX0 P w K mg base N_step_of "step_of" (defScope st_step_of) fa cd A outer s H E).nox J (defBody st_step_of) (w_step_of J) := by
  have nd : N_step_of.Nodup := sc_step_of.nd
  have u64 := hr.rm.units
  have u65 : (A.deeper (envOfC "step_of" (defScope st_step_of) s.heap.objs.size fa cd)).units + 65 < cLine := by have := hr.rm.un; omega
  have u1 : (A.deeper (envOfC "step_of" (defScope st_step_of) s.heap.objs.size fa cd)).units + 1 < cLine := by have := hr.rm.un; omega
  exact (dss_cons (ds_if (dt_cmp (od_eq u64) (db_var 0 (pv 0)) (db_of de_str) (by with_unfolding_all rfl)) (dss_one (ds_ret (de_op od_add (db_var 1 (pv 1)) (db_of de_int)))) dss_nil) (dss_one (ds_ret (de_if (dt_cmp (od_eq u64) (db_var 0 (pv 0)) (db_of de_str) (by with_unfolding_all rfl)) (de_op od_add (db_of (de_op od_mulA (db_of de_int) (db_var 1 (pv 1)))) (db_of de_int)) (de_var 1 (pv 1))))))
theorem c_step_of {g : Bool} {P : Program} {w : World} {K : PySem.W.Frag} {mg : Str → Option Value} {base : Heap} (G : Glo K mg)  {f : Addr} {fd : FuncData} (Fu : L2.Fun K "step_of" "step_of" st_step_of f fd) (hm : mg "step_of" = some (.ref f)) (hb : Binds K fd ["rule", "had"] []) (ver : ∀ (J : GJ) (ds : List D) (q : D → Prop), ds.length = 2 → S_step_of J ds q → w_step_of J (startE N_step_of ds) { nx := fun _ => q .non, rt := fun d _ => q d }) : CalG g P w K mg base 1 "step_of" S_step_of 2 :=
  cal_D Fu sc_step_of hm hb (fun J cd A outer s H E hr => b_step_of G  J hr) ver

/-! ### one_by_one: slots 0 votes, 1 many, 2 rule, 3 found, 4 turn, 5 best, 6 one -/
abbrev st_one_by_one : Stmt := topS 27
abbrev N_one_by_one : List Str := ["votes", "many", "rule", "found", "turn", "best", "one"]
theorem sc_one_by_one : FnScope N_one_by_one ["votes", "many", "rule"] (defScope st_one_by_one) := ⟨rfl, rfl, rfl, by decide +kernel, rfl, by decide +kernel, by decide +kernel⟩
def w_one_by_one (J : GJ) : WS := sSeq (sSet 3 (wNewRep (wLst (wCons (wOf (wC (.int 0))) wNil)) (wPr oLen (wCons (wB 0) wNil)))) (sSeq (sFor (wR1 (wCons (wOf (wVar 1)) wNil)) (gN 4) (sSeq (sSet 5 (wVal (wC (.int 0)))) (sSeq (sFor (wR2 (wCons (wOf (wC (.int 1))) (wCons (wOf (wPr oLen (wCons (wB 0) wNil))) wNil))) (gN 6) (sIf (wTB (wCall J S_is_ahead 2 (wCons (wOf (wTup (wCons (wOf (w2 oIx (wB 0) (wB 6))) (wCons (wOf (wCall J S_step_of 2 (wCons (wOf (wVar 2)) (wCons (wOf (w2 oIx (wB 3) (wB 6))) wNil)))) wNil)))) (wCons (wOf (wTup (wCons (wOf (w2 oIx (wB 0) (wB 5))) (wCons (wOf (wCall J S_step_of 2 (wCons (wOf (wVar 2)) (wCons (wOf (w2 oIx (wB 3) (wB 5))) wNil)))) wNil)))) wNil)))) (sSet 5 (wVal (wVar 6))) sNil)) (sAugL 3 (wVar 5) (wC (.int 1)))))) (sRet (wPr oTuple (wCons (wB 3) wNil))))
theorem b_one_by_one {g : Bool} {P : Program} {w : World} {K : PySem.W.Frag} {mg : Str → Option Value} {base : Heap} (G : Glo K mg) (c_step_of : CalG g P w K mg base 1 "step_of" S_step_of 2) (c_is_ahead : CalG g P w K mg base 1 "is_ahead" S_is_ahead 2) (J : GJ) {fa : Addr} {cd : Value} {A : Around} {outer : List Env} {s : Shared} {H : Hp} {E : XK} (hr : Rm g 1 (A.deeper (envOfC "one_by_one" (defScope st_one_by_one) s.heap.objs.size fa cd))) :
    DSs (cxOf L2.CX0 P w K mg base N_one_by_one "one_by_one" (defScope st_one_by_one) fa cd A outer s H E).nox J (defBody st_one_by_one) (w_one_by_one J) := by
  have nd : N_one_by_one.Nodup := sc_one_by_one.nd
  have u64 := hr.rm.units
  have u65 : (A.deeper (envOfC "one_by_one" (defScope st_one_by_one) s.heap.objs.size fa cd)).units + 65 < cLine := by have := hr.rm.un; omega
  have u1 : (A.deeper (envOfC "one_by_one" (defScope st_one_by_one) s.heap.objs.size fa cd)).units + 1 < cLine := by have := hr.rm.un; omega
  exact (dss_cons (ds_set nd rfl (by first | exact .inl rfl | exact .inr rfl) (dv_rep (de_lst (da_cons (db_of de_int) da_nil)) (de_callB cd_len (by rfl) G.b_len PySem.boot_len (da_cons (db_var 0 (pv 0)) da_nil)))) (dss_cons (ds_for PassesOwn.never rfl (di_r1 (by rfl) G.b_range (da_cons (db_of (de_var 1 (pv 1))) da_nil)) (dg_name 4 (L2.pg_name nd rfl (by first | exact .inl rfl | exact .inr rfl))) (dss_cons (ds_set nd rfl (by first | exact .inl rfl | exact .inr rfl) (dv_of de_int)) (dss_cons (ds_for PassesOwn.never rfl (di_r2 (by rfl) G.b_range (da_cons (db_of de_int) (da_cons (db_of (de_callB cd_len (by rfl) G.b_len PySem.boot_len (da_cons (db_var 0 (pv 0)) da_nil))) da_nil))) (dg_name 6 (L2.pg_name nd rfl (by first | exact .inl rfl | exact .inr rfl))) (dss_one (ds_if (dt_val (de_call c_is_ahead hr (by decide) (by rfl) (da_cons (db_of (de_tup (da_cons (db_of (de_ix od_ix (db_var 0 (pv 0)) (db_var 6 (pv 6)) (fun _ _ => rfl))) (da_cons (db_of (de_call c_step_of hr (by decide) (by rfl) (da_cons (db_of (de_var 2 (pv 2))) (da_cons (db_of (de_ix od_ix (db_var 3 (pv 3)) (db_var 6 (pv 6)) (fun _ _ => rfl))) da_nil)))) da_nil)))) (da_cons (db_of (de_tup (da_cons (db_of (de_ix od_ix (db_var 0 (pv 0)) (db_var 5 (pv 5)) (fun _ _ => rfl))) (da_cons (db_of (de_call c_step_of hr (by decide) (by rfl) (da_cons (db_of (de_var 2 (pv 2))) (da_cons (db_of (de_ix od_ix (db_var 3 (pv 3)) (db_var 5 (pv 5)) (fun _ _ => rfl))) da_nil)))) da_nil)))) da_nil)))) (dss_one (ds_set nd rfl (by first | exact .inl rfl | exact .inr rfl) (dv_of (de_var 6 (pv 6))))) dss_nil))) (dss_one (ds_augL (pv 3) (de_var 5 (pv 5)) de_int))))) (dss_one (ds_ret (de_callTy cd_tuple (by rfl) G.b_tuple PyProof.Rows.boot_tuple (da_cons (db_var 3 (pv 3)) da_nil))))))
theorem c_one_by_one {g : Bool} {P : Program} {w : World} {K : PySem.W.Frag} {mg : Str → Option Value} {base : Heap} (G : Glo K mg) (c_step_of : CalG g P w K mg base 1 "step_of" S_step_of 2) (c_is_ahead : CalG g P w K mg base 1 "is_ahead" S_is_ahead 2) {f : Addr} {fd : FuncData} (Fu : L2.Fun K "one_by_one" "one_by_one" st_one_by_one f fd) (hm : mg "one_by_one" = some (.ref f)) (hb : Binds K fd ["votes", "many", "rule"] []) (ver : ∀ (J : GJ) (ds : List D) (q : D → Prop), ds.length = 3 → S_one_by_one J ds q → w_one_by_one J (startE N_one_by_one ds) { nx := fun _ => q .non, rt := fun d _ => q d }) : CalG g P w K mg base 2 "one_by_one" S_one_by_one 3 :=
  cal_D Fu sc_one_by_one hm hb (fun J cd A outer s H E hr => b_one_by_one G c_step_of c_is_ahead J hr) ver

/-! ### by_rests: slots 0 votes, 1 many, 2 whole, 3 found, 4 one, 5 rests, 6 best -/
abbrev st_by_rests : Stmt := topS 28
abbrev N_by_rests : List Str := ["votes", "many", "whole", "found", "one", "rests", "best"]
theorem sc_by_rests : FnScope N_by_rests ["votes", "many"] (defScope st_by_rests) := ⟨rfl, rfl, rfl, by decide +kernel, rfl, by decide +kernel, by decide +kernel⟩
def w_by_rests (J : GJ) : WS := sSeq (sSet 2 (wVal (wPr oSumA (wCons (wB 0) wNil)))) (sSeq (sSet 3 (wNewLC [4] (wIs (wVar 0)) (gN 4) wYes (w2 oDivA (wOf (w2 oMulA (wB 4) (wB 1))) (wB 2)))) (sSeq (sSet 5 (wNewLC [4] (wIs (wVar 0)) (gN 4) wYes (w2 oMod (wOf (wPr oInt (wCons (wOf (w2 oMulA (wB 4) (wB 1))) wNil))) (wB 2)))) (sSeq (sWhile (wTB (w2 oLt (wOf (wPr oSumA (wCons (wB 3) wNil))) (wB 1))) (sSeq (sSet 6 (wVal (wIdx 5 (wPr oMax (wCons (wB 5) wNil))))) (sSeq (sAugL 3 (wVar 6) (wC (.int 1))) (wSetAt (w1 oNeg (wOf (wC (.int 1)))) (gIxL 5 (wVar 6)))))) (sRet (wPr oTuple (wCons (wB 3) wNil))))))
theorem b_by_rests {g : Bool} {P : Program} {w : World} {K : PySem.W.Frag} {mg : Str → Option Value} {base : Heap} (G : Glo K mg)  (J : GJ) {fa : Addr} {cd : Value} {A : Around} {outer : List Env} {s : Shared} {H : Hp} {E : XK} (hr : Rm g 0 (A.deeper (envOfC "by_rests" (defScope st_by_rests) s.heap.objs.size fa cd))) :
    DSs (cxOf L2.CX0 P w K mg base N_by_rests "by_rests" (defScope st_by_rests) fa cd A outer s H E).nox J (defBody st_by_rests) (w_by_rests J) := by
  have nd : N_by_rests.Nodup := sc_by_rests.nd
  have u64 := hr.rm.units
  have u65 : (A.deeper (envOfC "by_rests" (defScope st_by_rests) s.heap.objs.size fa cd)).units + 65 < cLine := by have := hr.rm.un; omega
  have u1 : (A.deeper (envOfC "by_rests" (defScope st_by_rests) s.heap.objs.size fa cd)).units + 1 < cLine := by have := hr.rm.un; omega
  exact (dss_cons (ds_set nd rfl (by first | exact .inl rfl | exact .inr rfl) (dv_of (de_callB (cd_sumA rfl) (by rfl) G.b_sum PyProof.Rows.boot_sum (da_cons (db_var 0 (pv 0)) da_nil)))) (dss_cons (ds_setLcO rfl nd rfl rfl rfl (di_seq (de_var 0 (pv 0))) (blkOk_by (own := [("one", 4)]) (by kernel_rfl)) (fun _ _ _ _ _ => (dg_name 4 (L2.pg_name nd rfl (by first | exact .inl rfl | exact .inr rfl)))) (fun _ _ _ _ _ => dts_nil) (fun _ _ _ _ _ => (de_op od_divA (db_of (de_op od_mulA (db_var 4 (pv 4)) (db_var 1 (pv 1)))) (db_var 2 (pv 2))))) (dss_cons (ds_setLcO rfl nd rfl rfl rfl (di_seq (de_var 0 (pv 0))) (blkOk_by (own := [("one", 4)]) (by kernel_rfl)) (fun _ _ _ _ _ => (dg_name 4 (L2.pg_name nd rfl (by first | exact .inl rfl | exact .inr rfl)))) (fun _ _ _ _ _ => dts_nil) (fun _ _ _ _ _ => (de_op od_mod (db_of (de_callTy cd_int (by rfl) G.b_int PyProof.Rows.boot_int (da_cons (db_of (de_op od_mulA (db_var 4 (pv 4)) (db_var 1 (pv 1)))) da_nil))) (db_var 2 (pv 2))))) (dss_cons (ds_while PassesOwn.never (dt_cmp od_lt (db_of (de_callB (cd_sumA rfl) (by rfl) G.b_sum PyProof.Rows.boot_sum (da_cons (db_var 3 (pv 3)) da_nil))) (db_var 1 (pv 1)) (by with_unfolding_all rfl)) (dss_cons (ds_set nd rfl (by first | exact .inl rfl | exact .inr rfl) (dv_of (de_idx (pv 5) (de_callB (cd_max rfl) (by rfl) G.b_max PyProof.Rows.boot_max (da_cons (db_var 5 (pv 5)) da_nil))))) (dss_cons (ds_augL (pv 3) (de_var 6 (pv 6)) de_int) (dss_one (ds_asg (de_un ud_neg (db_of de_int)) (dg_ixL (pv 5) (de_var 6 (pv 6)))))))) (dss_one (ds_ret (de_callTy cd_tuple (by rfl) G.b_tuple PyProof.Rows.boot_tuple (da_cons (db_var 3 (pv 3)) da_nil))))))))
theorem c_by_rests {g : Bool} {P : Program} {w : World} {K : PySem.W.Frag} {mg : Str → Option Value} {base : Heap} (G : Glo K mg)  {f : Addr} {fd : FuncData} (Fu : L2.Fun K "by_rests" "by_rests" st_by_rests f fd) (hm : mg "by_rests" = some (.ref f)) (hb : Binds K fd ["votes", "many"] []) (ver : ∀ (J : GJ) (ds : List D) (q : D → Prop), ds.length = 2 → S_by_rests J ds q → w_by_rests J (startE N_by_rests ds) { nx := fun _ => q .non, rt := fun d _ => q d }) : CalG g P w K mg base 1 "by_rests" S_by_rests 2 :=
  cal_D Fu sc_by_rests hm hb (fun J cd A outer s H E hr => b_by_rests G  J hr) ver

/-! ### raw_seats: slots 0 votes, 1 many, 2 rule -/
abbrev st_raw_seats : Stmt := topS 29
abbrev N_raw_seats : List Str := ["votes", "many", "rule"]
theorem sc_raw_seats : FnScope N_raw_seats ["votes", "many", "rule"] (defScope st_raw_seats) := ⟨rfl, rfl, rfl, by decide +kernel, rfl, by decide +kernel, by decide +kernel⟩
def w_raw_seats (J : GJ) : WS := sRet (wIf (wTB (w2 oEq (wB 2) (wOf (wC (.str "rest"))))) (wCall J S_by_rests 2 (wCons (wOf (wVar 0)) (wCons (wOf (wVar 1)) wNil))) (wCall J S_one_by_one 3 (wCons (wOf (wVar 0)) (wCons (wOf (wVar 1)) (wCons (wOf (wVar 2)) wNil)))))
theorem b_raw_seats {g : Bool} {P : Program} {w : World} {K : PySem.W.Frag} {mg : Str → Option Value} {base : Heap} (G : Glo K mg) (c_by_rests : CalG g P w K mg base 1 "by_rests" S_by_rests 2) (c_one_by_one : CalG g P w K mg base 2 "one_by_one" S_one_by_one 3) (J : GJ) {fa : Addr} {cd : Value} {A : Around} {outer : List Env} {s : Shared} {H : Hp} {E : XK} (hr : Rm g 2 (A.deeper (envOfC "raw_seats" (defScope st_raw_seats) s.heap.objs.size fa cd))) :
    DSs (cxOf L2.CX0 P w K mg base N_raw_seats "raw_seats" (defScope st_raw_seats) fa cd A outer s H E).nox J (defBody st_raw_seats) (w_raw_seats J) := by
  have nd : N_raw_seats.Nodup := sc_raw_seats.nd
  have u64 := hr.rm.units
  have u65 : (A.deeper (envOfC "raw_seats" (defScope st_raw_seats) s.heap.objs.size fa cd)).units + 65 < cLine := by have := hr.rm.un; omega
  have u1 : (A.deeper (envOfC "raw_seats" (defScope st_raw_seats) s.heap.objs.size fa cd)).units + 1 < cLine := by have := hr.rm.un; omega
  exact (dss_one (ds_ret (de_if (dt_cmp (od_eq u64) (db_var 2 (pv 2)) (db_of de_str) (by with_unfolding_all rfl)) (de_call c_by_rests hr (by decide) (by rfl) (da_cons (db_of (de_var 0 (pv 0))) (da_cons (db_of (de_var 1 (pv 1))) da_nil))) (de_call c_one_by_one hr (by decide) (by rfl) (da_cons (db_of (de_var 0 (pv 0))) (da_cons (db_of (de_var 1 (pv 1))) (da_cons (db_of (de_var 2 (pv 2))) da_nil)))))))
theorem c_raw_seats {g : Bool} {P : Program} {w : World} {K : PySem.W.Frag} {mg : Str → Option Value} {base : Heap} (G : Glo K mg) (c_by_rests : CalG g P w K mg base 1 "by_rests" S_by_rests 2) (c_one_by_one : CalG g P w K mg base 2 "one_by_one" S_one_by_one 3) {f : Addr} {fd : FuncData} (Fu : L2.Fun K "raw_seats" "raw_seats" st_raw_seats f fd) (hm : mg "raw_seats" = some (.ref f)) (hb : Binds K fd ["votes", "many", "rule"] []) (ver : ∀ (J : GJ) (ds : List D) (q : D → Prop), ds.length = 3 → S_raw_seats J ds q → w_raw_seats J (startE N_raw_seats ds) { nx := fun _ => q .non, rt := fun d _ => q d }) : CalG g P w K mg base 3 "raw_seats" S_raw_seats 3 :=
  cal_D Fu sc_raw_seats hm hb (fun J cd A outer s H E hr => b_raw_seats G c_by_rests c_one_by_one J hr) ver

/-! ### check_rule: slots 0 thing, 1 rules -/
abbrev st_check_rule : Stmt := topS 30
abbrev N_check_rule : List Str := ["thing", "rules"]
theorem sc_check_rule : FnScope N_check_rule ["thing", "rules"] (defScope st_check_rule) := ⟨rfl, rfl, rfl, by decide +kernel, rfl, by decide +kernel, by decide +kernel⟩
def w_check_rule (J : GJ) : WS := sIf (wTOr (wTNot (wTB (wPr oIsi (wCons (wB 0) (wCons (wOf (wC (.ty "str"))) wNil))))) (wTB (w2 oNotIn (wB 0) (wB 1)))) sNever sNil
theorem b_check_rule {g : Bool} {P : Program} {w : World} {K : PySem.W.Frag} {mg : Str → Option Value} {base : Heap} (G : Glo K mg)  (J : GJ) {fa : Addr} {cd : Value} {A : Around} {outer : List Env} {s : Shared} {H : Hp} {E : XK} (hr : Rm g 0 (A.deeper (envOfC "check_rule" (defScope st_check_rule) s.heap.objs.size fa cd))) :
    DSs (cxOf L2.CX0 P w K mg base N_check_rule "check_rule" (defScope st_check_rule) fa cd A outer s H E).nox J (defBody st_check_rule) (w_check_rule J) := by
  have nd : N_check_rule.Nodup := sc_check_rule.nd
  have u64 := hr.rm.units
  have u65 : (A.deeper (envOfC "check_rule" (defScope st_check_rule) s.heap.objs.size fa cd)).units + 65 < cLine := by have := hr.rm.un; omega
  have u1 : (A.deeper (envOfC "check_rule" (defScope st_check_rule) s.heap.objs.size fa cd)).units + 1 < cLine := by have := hr.rm.un; omega
  exact (dss_one (ds_if (dt_of (dw_or (dt_not (dt_val (de_callB cd_isi (by rfl) G.b_isinstance PyProof.Rows.boot_isinstance (da_cons (db_var 0 (pv 0)) (da_cons (db_of (de_ty rfl G.b_str PyProof.Rows.boot_str)) da_nil))))) (dw_or1 (dt_cmp (od_notIn u65) (db_var 0 (pv 0)) (db_var 1 (pv 1)) (by with_unfolding_all rfl))))) (dss_one ds_never) dss_nil))
theorem c_check_rule {g : Bool} {P : Program} {w : World} {K : PySem.W.Frag} {mg : Str → Option Value} {base : Heap} (G : Glo K mg)  {f : Addr} {fd : FuncData} (Fu : L2.Fun K "check_rule" "check_rule" st_check_rule f fd) (hm : mg "check_rule" = some (.ref f)) (hb : Binds K fd ["thing", "rules"] []) (ver : ∀ (J : GJ) (ds : List D) (q : D → Prop), ds.length = 2 → S_check_rule J ds q → w_check_rule J (startE N_check_rule ds) { nx := fun _ => q .non, rt := fun d _ => q d }) : CalG g P w K mg base 1 "check_rule" S_check_rule 2 :=
  cal_D Fu sc_check_rule hm hb (fun J cd A outer s H E hr => b_check_rule G  J hr) ver

/-! ### seats: slots 0 votes, 1 many, 2 rule -/
abbrev st_seats : Stmt := topS 31
abbrev N_seats : List Str := ["votes", "many", "rule"]
theorem sc_seats : FnScope N_seats ["votes", "many", "rule"] (defScope st_seats) := ⟨rfl, rfl, rfl, by decide +kernel, rfl, by decide +kernel, by decide +kernel⟩
def w_seats (J : GJ) : WS := sSeq (sDrop (wCall J S_check_votes 1 (wCons (wOf (wVar 0)) wNil))) (sSeq (sIf (wTNot (wTB (wCall J S_is_within 3 (wCons (wOf (wVar 1)) (wCons (wOf (wC (.int 0))) (wCons (wOf (wC (.int 200))) wNil)))))) sNever sNil) (sSeq (sDrop (wCall J S_check_rule 2 (wCons (wOf (wVar 2)) (wCons (wOf (wC (.tup [.str "first", .str "middle", .str "up", .str "rest"]))) wNil)))) (sRet (wCall J S_raw_seats 3 (wCons (wOf (wVar 0)) (wCons (wOf (wVar 1)) (wCons (wOf (wVar 2)) wNil)))))))
theorem b_seats {g : Bool} {P : Program} {w : World} {K : PySem.W.Frag} {mg : Str → Option Value} {base : Heap} (G : Glo K mg) (c_check_votes : CalG g P w K mg base 3 "check_votes" S_check_votes 1) (c_is_within : CalG g P w K mg base 2 "is_within" S_is_within 3) (c_check_rule : CalG g P w K mg base 1 "check_rule" S_check_rule 2) (c_raw_seats : CalG g P w K mg base 3 "raw_seats" S_raw_seats 3) (J : GJ) {fa : Addr} {cd : Value} {A : Around} {outer : List Env} {s : Shared} {H : Hp} {E : XK} (hr : Rm g 3 (A.deeper (envOfC "seats" (defScope st_seats) s.heap.objs.size fa cd))) :
    DSs (cxOf L2.CX0 P w K mg base N_seats "seats" (defScope st_seats) fa cd A outer s H E).nox J (defBody st_seats) (w_seats J) := by
  have nd : N_seats.Nodup := sc_seats.nd
  have u64 := hr.rm.units
  have u65 : (A.deeper (envOfC "seats" (defScope st_seats) s.heap.objs.size fa cd)).units + 65 < cLine := by have := hr.rm.un; omega
  have u1 : (A.deeper (envOfC "seats" (defScope st_seats) s.heap.objs.size fa cd)).units + 1 < cLine := by have := hr.rm.un; omega
  exact (dss_cons (ds_expr (de_call c_check_votes hr (by decide) (by rfl) (da_cons (db_of (de_var 0 (pv 0))) da_nil))) (dss_cons (ds_if (dt_not (dt_val (de_call c_is_within hr (by decide) (by rfl) (da_cons (db_of (de_var 1 (pv 1))) (da_cons (db_of de_int) (da_cons (db_of (de_gi rfl G.c_MOST_SEATS)) da_nil)))))) (dss_one ds_never) dss_nil) (dss_cons (ds_expr (de_call c_check_rule hr (by decide) (by rfl) (da_cons (db_of (de_var 2 (pv 2))) (da_cons (db_of (de_gt rfl G.t_RULES)) da_nil)))) (dss_one (ds_ret (de_call c_raw_seats hr (by decide) (by rfl) (da_cons (db_of (de_var 0 (pv 0))) (da_cons (db_of (de_var 1 (pv 1))) (da_cons (db_of (de_var 2 (pv 2))) da_nil)))))))))
theorem c_seats {g : Bool} {P : Program} {w : World} {K : PySem.W.Frag} {mg : Str → Option Value} {base : Heap} (G : Glo K mg) (c_check_votes : CalG g P w K mg base 3 "check_votes" S_check_votes 1) (c_is_within : CalG g P w K mg base 2 "is_within" S_is_within 3) (c_check_rule : CalG g P w K mg base 1 "check_rule" S_check_rule 2) (c_raw_seats : CalG g P w K mg base 3 "raw_seats" S_raw_seats 3) {f : Addr} {fd : FuncData} (Fu : L2.Fun K "seats" "seats" st_seats f fd) (hm : mg "seats" = some (.ref f)) (hb : Binds K fd ["votes", "many", "rule"] []) (ver : ∀ (J : GJ) (ds : List D) (q : D → Prop), ds.length = 3 → S_seats J ds q → w_seats J (startE N_seats ds) { nx := fun _ => q .non, rt := fun d _ => q d }) : CalG g P w K mg base 4 "seats" S_seats 3 :=
  cal_D Fu sc_seats hm hb (fun J cd A outer s H E hr => b_seats G c_check_votes c_is_within c_check_rule c_raw_seats J hr) ver

/-! ### divisors: slots 0 votes, 1 seats, 2 rule, 3 one, 4 lows, 5 highs, 6 had, 7 high, 8 low -/
abbrev st_divisors : Stmt := topS 32
abbrev N_divisors : List Str := ["votes", "seats", "rule", "one", "lows", "highs", "had", "high", "low"]
theorem sc_divisors : FnScope N_divisors ["votes", "seats", "rule"] (defScope st_divisors) := ⟨rfl, rfl, rfl, by decide +kernel, rfl, by decide +kernel, by decide +kernel⟩
def w_divisors (J : GJ) : WS := sSeq (sDrop (wCall J S_check_votes 1 (wCons (wOf (wVar 0)) wNil))) (sSeq (sIf (wTOr (wTNot (wTB (wCall J S_is_tuple 2 (wCons (wOf (wVar 1)) (wCons (wOf (wPr oLen (wCons (wB 0) wNil))) wNil))))) (wTNot (wTB (wPr oAll (wCons (wOf (wLC [3] (wIs (wVar 1)) (gN 3) wYes (wCall J S_is_number 1 (wCons (wOf (wVar 3)) wNil)))) wNil))))) sNever sNil) (sSeq (sDrop (wCall J S_check_rule 2 (wCons (wOf (wVar 2)) (wCons (wOf (wSl oSl (wOf (wC (.tup [.str "first", .str "middle", .str "up", .str "rest"]))) wONone (wOSome (wC (.int 2))))) wNil)))) (sSeq (sPar 4 5 (wNewL wNil) (wNewL wNil)) (sSeq (sFor (wZp (wCons (wOf (wVar 0)) (wCons (wOf (wVar 1)) wNil))) (gTup 2 (gCons (gN 3) (gCons (gN 6) gNil))) (sSeq (sIf (wTB (w2 oEq (wB 2) (wOf (wC (.str "first"))))) (sSeq (sDrop (wApp 4 (wCall J S_lowest 2 (wCons (wOf (wVar 3)) (wCons (wOf (w2 oAdd (wB 6) (wOf (wC (.int 1))))) wNil))))) (sSet 7 (wVal (wIf (wTB (w2 oGt (wB 6) (wOf (wC (.int 0))))) (wCall J S_lowest 2 (wCons (wOf (wVar 3)) (wCons (wOf (wVar 6)) wNil))) (wC .non))))) (sSeq (sDrop (wApp 4 (wCall J S_lowest 2 (wCons (wOf (w2 oMulA (wOf (wC (.int 2))) (wB 3))) (wCons (wOf (w2 oAdd (wOf (w2 oMulA (wOf (wC (.int 2))) (wB 6))) (wOf (wC (.int 1))))) wNil))))) (sSet 7 (wVal (wIf (wTB (w2 oGt (wB 6) (wOf (wC (.int 0))))) (wCall J S_lowest 2 (wCons (wOf (w2 oMulA (wOf (wC (.int 2))) (wB 3))) (wCons (wOf (w2 oSub (wOf (w2 oMulA (wOf (wC (.int 2))) (wB 6))) (wOf (wC (.int 1))))) wNil))) (wC .non)))))) (sIf (wTB (wIsNn (wVar 7))) (sDrop (wApp 5 (wVar 7))) sNil))) (sSeq (sPar 8 7 (wVal (wCall J S_greatest 1 (wCons (wOf (wVar 4)) wNil))) (wVal (wIf (wTB (w2 oGt (wOf (wPr oLen (wCons (wB 5) wNil))) (wOf (wC (.int 0))))) (wCall J S_least 1 (wCons (wOf (wVar 5)) wNil)) (wC .non)))) (sSeq (sIf (wTB (wIsN (wVar 7))) (sRet (wTup (wCons (wOf (wVar 8)) (wCons (wOf (wC .non)) wNil)))) sNil) (sRet (wIf (wTAnd (wTB (wCall J S_is_most 2 (wCons (wOf (wVar 8)) (wCons (wOf (wVar 7)) wNil)))) (wTB (wCall J S_is_below 2 (wCons (wOf (wTup (wCons (wOf (wC (.int 0))) (wCons (wOf (wC (.int 1))) wNil)))) (wCons (wOf (wVar 7)) wNil))))) (wTup (wCons (wOf (wVar 8)) (wCons (wOf (wVar 7)) wNil))) (wC .non)))))))))
theorem b_divisors {g : Bool} {P : Program} {w : World} {K : PySem.W.Frag} {mg : Str → Option Value} {base : Heap} (G : Glo K mg) (c_check_votes : CalG g P w K mg base 3 "check_votes" S_check_votes 1) (c_is_tuple : CalG g P w K mg base 1 "is_tuple" S_is_tuple 2) (c_is_number : CalG g P w K mg base 2 "is_number" S_is_number 1) (c_check_rule : CalG g P w K mg base 1 "check_rule" S_check_rule 2) (c_lowest : CalG g P w K mg base 2 "lowest" S_lowest 2) (c_greatest : CalG g P w K mg base 2 "greatest" S_greatest 1) (c_least : CalG g P w K mg base 2 "least" S_least 1) (c_is_most : CalG g P w K mg base 1 "is_most" S_is_most 2) (c_is_below : CalG g P w K mg base 1 "is_below" S_is_below 2) (J : GJ) {fa : Addr} {cd : Value} {A : Around} {outer : List Env} {s : Shared} {H : Hp} {E : XK} (hr : Rm g 3 (A.deeper (envOfC "divisors" (defScope st_divisors) s.heap.objs.size fa cd))) :
    DSs (cxOf L2.CX0 P w K mg base N_divisors "divisors" (defScope st_divisors) fa cd A outer s H E).nox J (defBody st_divisors) (w_divisors J) := by
  have nd : N_divisors.Nodup := sc_divisors.nd
  have u64 := hr.rm.units
  have u65 : (A.deeper (envOfC "divisors" (defScope st_divisors) s.heap.objs.size fa cd)).units + 65 < cLine := by have := hr.rm.un; omega
  have u1 : (A.deeper (envOfC "divisors" (defScope st_divisors) s.heap.objs.size fa cd)).units + 1 < cLine := by have := hr.rm.un; omega
  exact (dss_cons (ds_expr (de_call c_check_votes hr (by decide) (by rfl) (da_cons (db_of (de_var 0 (pv 0))) da_nil))) (dss_cons (ds_if (dt_of (dw_or (dt_not (dt_val (de_call c_is_tuple hr (by decide) (by rfl) (da_cons (db_of (de_var 1 (pv 1))) (da_cons (db_of (de_callB cd_len (by rfl) G.b_len PySem.boot_len (da_cons (db_var 0 (pv 0)) da_nil))) da_nil))))) (dw_or1 (dt_not (dt_val (de_callB (cd_all rfl) (by rfl) G.b_all PyProof.Rows.boot_all (da_cons (db_of (de_lc rfl nd (di_seq (de_var 1 (pv 1))) (blkOk_by (own := [("one", 3)]) (by kernel_rfl)) (fun _ _ _ _ _ => (dg_name 3 (L2.pg_name nd rfl (by first | exact .inl rfl | exact .inr rfl)))) (fun _ _ _ _ _ => dts_nil) (fun _ _ _ _ _ => (de_call c_is_number hr (by decide) (by rfl) (da_cons (db_of (de_var 3 (pv 3))) da_nil))))) da_nil))))))) (dss_one ds_never) dss_nil) (dss_cons (ds_expr (de_call c_check_rule hr (by decide) (by rfl) (da_cons (db_of (de_var 2 (pv 2))) (da_cons (db_of (de_sl od_sl (db_of (de_gt rfl G.t_RULES)) do_none (do_some de_int))) da_nil)))) (dss_cons (ds_par rfl nd rfl rfl (by decide) rfl rfl (dv_lst da_nil) (dv_lst da_nil) rfl) (dss_cons (ds_for PassesOwn.never rfl (di_zip (by rfl) G.b_zip (da_cons (db_of (de_var 0 (pv 0))) (da_cons (db_of (de_var 1 (pv 1))) da_nil))) (dg_tup rfl (dgs_cons (dg_name 3 (L2.pg_name nd rfl (by first | exact .inl rfl | exact .inr rfl))) (dgs_cons (dg_name 6 (L2.pg_name nd rfl (by first | exact .inl rfl | exact .inr rfl))) dgs_nil))) (dss_cons (ds_if (dt_cmp (od_eq u64) (db_var 2 (pv 2)) (db_of de_str) (by with_unfolding_all rfl)) (dss_cons (ds_expr (de_app (pv 4) (de_call c_lowest hr (by decide) (by rfl) (da_cons (db_of (de_var 3 (pv 3))) (da_cons (db_of (de_op od_add (db_var 6 (pv 6)) (db_of de_int))) da_nil))))) (dss_one (ds_set nd rfl (by first | exact .inl rfl | exact .inr rfl) (dv_of (de_if (dt_cmp od_gt (db_var 6 (pv 6)) (db_of de_int) (by with_unfolding_all rfl)) (de_call c_lowest hr (by decide) (by rfl) (da_cons (db_of (de_var 3 (pv 3))) (da_cons (db_of (de_var 6 (pv 6))) da_nil))) de_non))))) (dss_cons (ds_expr (de_app (pv 4) (de_call c_lowest hr (by decide) (by rfl) (da_cons (db_of (de_op od_mulA (db_of de_int) (db_var 3 (pv 3)))) (da_cons (db_of (de_op od_add (db_of (de_op od_mulA (db_of de_int) (db_var 6 (pv 6)))) (db_of de_int))) da_nil))))) (dss_one (ds_set nd rfl (by first | exact .inl rfl | exact .inr rfl) (dv_of (de_if (dt_cmp od_gt (db_var 6 (pv 6)) (db_of de_int) (by with_unfolding_all rfl)) (de_call c_lowest hr (by decide) (by rfl) (da_cons (db_of (de_op od_mulA (db_of de_int) (db_var 3 (pv 3)))) (da_cons (db_of (de_op od_sub (db_of (de_op od_mulA (db_of de_int) (db_var 6 (pv 6)))) (db_of de_int))) da_nil))) de_non)))))) (dss_one (ds_if (dt_isNn (de_var 7 (pv 7))) (dss_one (ds_expr (de_app (pv 5) (de_var 7 (pv 7))))) dss_nil)))) (dss_cons (ds_par rfl nd rfl rfl (by decide) rfl rfl (dv_of (de_call c_greatest hr (by decide) (by rfl) (da_cons (db_of (de_var 4 (pv 4))) da_nil))) (dv_of (de_if (dt_cmp od_gt (db_of (de_callB cd_len (by rfl) G.b_len PySem.boot_len (da_cons (db_var 5 (pv 5)) da_nil))) (db_of de_int) (by with_unfolding_all rfl)) (de_call c_least hr (by decide) (by rfl) (da_cons (db_of (de_var 5 (pv 5))) da_nil)) de_non)) rfl) (dss_cons (ds_if (dt_isN (de_var 7 (pv 7))) (dss_one (ds_ret (de_tup (da_cons (db_of (de_var 8 (pv 8))) (da_cons (db_of de_non) da_nil))))) dss_nil) (dss_one (ds_ret (de_if (dt_of (dw_and (dt_val (de_call c_is_most hr (by decide) (by rfl) (da_cons (db_of (de_var 8 (pv 8))) (da_cons (db_of (de_var 7 (pv 7))) da_nil)))) (dw_and1 (dt_val (de_call c_is_below hr (by decide) (by rfl) (da_cons (db_of (de_tup (da_cons (db_of de_int) (da_cons (db_of de_int) da_nil)))) (da_cons (db_of (de_var 7 (pv 7))) da_nil))))))) (de_tup (da_cons (db_of (de_var 8 (pv 8))) (da_cons (db_of (de_var 7 (pv 7))) da_nil))) de_non))))))))))
theorem c_divisors {g : Bool} {P : Program} {w : World} {K : PySem.W.Frag} {mg : Str → Option Value} {base : Heap} (G : Glo K mg) (c_check_votes : CalG g P w K mg base 3 "check_votes" S_check_votes 1) (c_is_tuple : CalG g P w K mg base 1 "is_tuple" S_is_tuple 2) (c_is_number : CalG g P w K mg base 2 "is_number" S_is_number 1) (c_check_rule : CalG g P w K mg base 1 "check_rule" S_check_rule 2) (c_lowest : CalG g P w K mg base 2 "lowest" S_lowest 2) (c_greatest : CalG g P w K mg base 2 "greatest" S_greatest 1) (c_least : CalG g P w K mg base 2 "least" S_least 1) (c_is_most : CalG g P w K mg base 1 "is_most" S_is_most 2) (c_is_below : CalG g P w K mg base 1 "is_below" S_is_below 2) {f : Addr} {fd : FuncData} (Fu : L2.Fun K "divisors" "divisors" st_divisors f fd) (hm : mg "divisors" = some (.ref f)) (hb : Binds K fd ["votes", "seats", "rule"] []) (ver : ∀ (J : GJ) (ds : List D) (q : D → Prop), ds.length = 3 → S_divisors J ds q → w_divisors J (startE N_divisors ds) { nx := fun _ => q .non, rt := fun d _ => q d }) : CalG g P w K mg base 4 "divisors" S_divisors 3 :=
  cal_D Fu sc_divisors hm hb (fun J cd A outer s H E hr => b_divisors G c_check_votes c_is_tuple c_is_number c_check_rule c_lowest c_greatest c_least c_is_most c_is_below J hr) ver

/-! ### lost_seat: slots 0 votes, 1 most, 2 many, 3 now, 4 later, 5 one, 6 other -/
abbrev st_lost_seat : Stmt := topS 33
abbrev N_lost_seat : List Str := ["votes", "most", "many", "now", "later", "one", "other"]
theorem sc_lost_seat : FnScope N_lost_seat ["votes", "most"] (defScope st_lost_seat) := ⟨rfl, rfl, rfl, by decide +kernel, rfl, by decide +kernel, by decide +kernel⟩
def w_lost_seat (J : GJ) : WS := sSeq (sDrop (wCall J S_check_votes 1 (wCons (wOf (wVar 0)) wNil))) (sSeq (sIf (wTNot (wTB (wCall J S_is_within 3 (wCons (wOf (wVar 1)) (wCons (wOf (wC (.int 1))) (wCons (wOf (wC (.int 100))) wNil)))))) sNever sNil) (sSeq (sFor (wR1 (wCons (wOf (wVar 1)) wNil)) (gN 2) (sSeq (sPar 3 4 (wVal (wCall J S_by_rests 2 (wCons (wOf (wVar 0)) (wCons (wOf (wVar 2)) wNil)))) (wVal (wCall J S_by_rests 2 (wCons (wOf (wVar 0)) (wCons (wOf (w2 oAdd (wB 2) (wOf (wC (.int 1))))) wNil))))) (sIf (wTB (wPr oAny (wCons (wOf (wLC [5, 6] (wZp (wCons (wOf (wVar 3)) (wCons (wOf (wVar 4)) wNil))) (gTup 2 (gCons (gN 5) (gCons (gN 6) gNil))) wYes (w2 oGt (wB 5) (wB 6)))) wNil))) (sRet (wVar 2)) sNil))) (sRet (wC .non))))
theorem b_lost_seat {g : Bool} {P : Program} {w : World} {K : PySem.W.Frag} {mg : Str → Option Value} {base : Heap} (G : Glo K mg) (c_check_votes : CalG g P w K mg base 3 "check_votes" S_check_votes 1) (c_is_within : CalG g P w K mg base 2 "is_within" S_is_within 3) (c_by_rests : CalG g P w K mg base 1 "by_rests" S_by_rests 2) (J : GJ) {fa : Addr} {cd : Value} {A : Around} {outer : List Env} {s : Shared} {H : Hp} {E : XK} (hr : Rm g 3 (A.deeper (envOfC "lost_seat" (defScope st_lost_seat) s.heap.objs.size fa cd))) :
    DSs (cxOf L2.CX0 P w K mg base N_lost_seat "lost_seat" (defScope st_lost_seat) fa cd A outer s H E).nox J (defBody st_lost_seat) (w_lost_seat J) := by
  have nd : N_lost_seat.Nodup := sc_lost_seat.nd
  have u64 := hr.rm.units
  have u65 : (A.deeper (envOfC "lost_seat" (defScope st_lost_seat) s.heap.objs.size fa cd)).units + 65 < cLine := by have := hr.rm.un; omega
  have u1 : (A.deeper (envOfC "lost_seat" (defScope st_lost_seat) s.heap.objs.size fa cd)).units + 1 < cLine := by have := hr.rm.un; omega
  exact (dss_cons (ds_expr (de_call c_check_votes hr (by decide) (by rfl) (da_cons (db_of (de_var 0 (pv 0))) da_nil))) (dss_cons (ds_if (dt_not (dt_val (de_call c_is_within hr (by decide) (by rfl) (da_cons (db_of (de_var 1 (pv 1))) (da_cons (db_of de_int) (da_cons (db_of (de_gi rfl G.c_MOST_LOOKED)) da_nil)))))) (dss_one ds_never) dss_nil) (dss_cons (ds_for PassesOwn.never rfl (di_r1 (by rfl) G.b_range (da_cons (db_of (de_var 1 (pv 1))) da_nil)) (dg_name 2 (L2.pg_name nd rfl (by first | exact .inl rfl | exact .inr rfl))) (dss_cons (ds_par rfl nd rfl rfl (by decide) rfl rfl (dv_of (de_call c_by_rests hr (by decide) (by rfl) (da_cons (db_of (de_var 0 (pv 0))) (da_cons (db_of (de_var 2 (pv 2))) da_nil)))) (dv_of (de_call c_by_rests hr (by decide) (by rfl) (da_cons (db_of (de_var 0 (pv 0))) (da_cons (db_of (de_op od_add (db_var 2 (pv 2)) (db_of de_int))) da_nil)))) rfl) (dss_one (ds_if (dt_val (de_callB (cd_any rfl) (by rfl) G.b_any PyProof.Rows.boot_any (da_cons (db_of (de_lc rfl nd (di_zip (by rfl) G.b_zip (da_cons (db_of (de_var 3 (pv 3))) (da_cons (db_of (de_var 4 (pv 4))) da_nil))) (blkOk_by (own := [("one", 5), ("other", 6)]) (by kernel_rfl)) (fun _ _ _ _ _ => (dg_tup rfl (dgs_cons (dg_name 5 (L2.pg_name nd rfl (by first | exact .inl rfl | exact .inr rfl))) (dgs_cons (dg_name 6 (L2.pg_name nd rfl (by first | exact .inl rfl | exact .inr rfl))) dgs_nil)))) (fun _ _ _ _ _ => dts_nil) (fun _ _ _ _ _ => (de_cmp od_gt (db_var 5 (pv 5)) (db_var 6 (pv 6)) (by with_unfolding_all rfl))))) da_nil))) (dss_one (ds_ret (de_var 2 (pv 2)))) dss_nil)))) (dss_one (ds_ret de_non)))))
theorem c_lost_seat {g : Bool} {P : Program} {w : World} {K : PySem.W.Frag} {mg : Str → Option Value} {base : Heap} (G : Glo K mg) (c_check_votes : CalG g P w K mg base 3 "check_votes" S_check_votes 1) (c_is_within : CalG g P w K mg base 2 "is_within" S_is_within 3) (c_by_rests : CalG g P w K mg base 1 "by_rests" S_by_rests 2) {f : Addr} {fd : FuncData} (Fu : L2.Fun K "lost_seat" "lost_seat" st_lost_seat f fd) (hm : mg "lost_seat" = some (.ref f)) (hb : Binds K fd ["votes", "most"] []) (ver : ∀ (J : GJ) (ds : List D) (q : D → Prop), ds.length = 2 → S_lost_seat J ds q → w_lost_seat J (startE N_lost_seat ds) { nx := fun _ => q .non, rt := fun d _ => q d }) : CalG g P w K mg base 4 "lost_seat" S_lost_seat 2 :=
  cal_D Fu sc_lost_seat hm hb (fun J cd A outer s H E hr => b_lost_seat G c_check_votes c_is_within c_by_rests J hr) ver

/-! ### _law_draw: slots 0 hand, 1 many, 2 cell, 3 digit, 4 number -/
abbrev st__law_draw : Stmt := topS 36
abbrev N__law_draw : List Str := ["hand", "many", "cell", "digit", "number"]
theorem sc__law_draw : FnScope N__law_draw ["hand", "many"] (defScope st__law_draw) := ⟨rfl, rfl, rfl, by decide +kernel, rfl, by decide +kernel, by decide +kernel⟩
def w__law_draw (J : GJ) : WS := sSeq (sIf (wTAnd (wTB (w2 oEq (wOf (w2 oIx (wB 0) (wOf (wC (.int 2))))) (wOf (wC (.int 0))))) (wTB (w2 oLt (wOf (w2 oIx (wB 0) (wOf (wC (.int 1))))) (wOf (wPr oLen (wCons (wOf (w2 oIx (wB 0) (wOf (wC (.int 0))))) wNil)))))) (sSeq (sSet 2 (wVal (w2 oIx (wOf (w2 oIx (wB 0) (wOf (wC (.int 0))))) (wOf (w2 oIx (wB 0) (wOf (wC (.int 1)))))))) (sSeq (wSetAt (w2 oAdd (wOf (w2 oIx (wB 0) (wOf (wC (.int 1))))) (wOf (wC (.int 1)))) (gIxAt 0 (wC (.int 1)))) (sSeq (wSetAt (w2 oMod (wOf (wPr oInt (wCons (wOf (w2 oAdd (wOf (w2 oAdd (wOf (w2 oMulA (wOf (w2 oIx (wB 0) (wOf (wC (.int 3))))) (wOf (wC (.int 69621))))) (wOf (w2 oMulA (wB 2) (wOf (wC (.int 40692))))))) (wOf (wC (.int 41))))) wNil))) (wOf (wC (.int 2147483629)))) (gIxAt 0 (wC (.int 3)))) (sIf (wTB (w2 oGe (wB 2) (wOf (w2 oPow (wOf (wC (.int 10))) (wOf (wC (.int 18))))))) (wSetAt (wVar 2) (gIxAt 0 (wC (.int 2)))) sNil)))) sNil) (sSeq (sIf (wTB (w2 oGt (wOf (w2 oIx (wB 0) (wOf (wC (.int 2))))) (wOf (wC (.int 0))))) (sSeq (sSet 3 (wVal (w2 oMod (wOf (wPr oInt (wCons (wOf (w2 oIx (wB 0) (wOf (wC (.int 2))))) wNil))) (wB 1)))) (sSeq (wSetAt (w2 oDivA (wOf (w2 oIx (wB 0) (wOf (wC (.int 2))))) (wB 1)) (gIxAt 0 (wC (.int 2)))) (sRet (wVar 3)))) sNil) (sSeq (wSetAt (w2 oAdd (wOf (w2 oIx (wB 0) (wOf (wC (.int 4))))) (wOf (wC (.int 1)))) (gIxAt 0 (wC (.int 4)))) (sSeq (sSet 4 (wVal (w2 oMod (wOf (wPr oInt (wCons (wOf (w2 oMulA (wOf (wPr oInt (wCons (wOf (w2 oAdd (wOf (w2 oIx (wB 0) (wOf (wC (.int 3))))) (wOf (w2 oMulA (wOf (wC (.int 7919))) (wOf (w2 oIx (wB 0) (wOf (wC (.int 4))))))))) wNil))) (wOf (wC (.int 48271))))) wNil))) (wOf (wC (.int 2147483647)))))) (sSeq (sSet 4 (wVal (w2 oMod (wOf (wPr oInt (wCons (wOf (w2 oMulA (wB 4) (wOf (w2 oAdd (wOf (w2 oDivA (wB 4) (wOf (wC (.int 1009))))) (wOf (wC (.int 69621))))))) wNil))) (wOf (wC (.int 2147483647)))))) (sSeq (sSet 4 (wVal (w2 oMod (wOf (wPr oInt (wCons (wOf (w2 oMulA (wB 4) (wOf (w2 oAdd (wOf (w2 oDivA (wB 4) (wOf (wC (.int 2003))))) (wOf (wC (.int 40692))))))) wNil))) (wOf (wC (.int 2147483399)))))) (sRet (w2 oMod (wOf (wPr oInt (wCons (wOf (w2 oDivA (wB 4) (wOf (wC (.int 16))))) wNil))) (wB 1))))))))
theorem b__law_draw {g : Bool} {P : Program} {w : World} {K : PySem.W.Frag} {mg : Str → Option Value} {base : Heap} (G : Glo K mg)  (J : GJ) {fa : Addr} {cd : Value} {A : Around} {outer : List Env} {s : Shared} {H : Hp} {E : XK} (hr : Rm g 0 (A.deeper (envOfC "_law_draw" (defScope st__law_draw) s.heap.objs.size fa cd))) :
    DSs (cxOf L2.CX0 P w K mg base N__law_draw "_law_draw" (defScope st__law_draw) fa cd A outer s H E).nox J (defBody st__law_draw) (w__law_draw J) := by
  have nd : N__law_draw.Nodup := sc__law_draw.nd
  have u64 := hr.rm.units
  have u65 : (A.deeper (envOfC "_law_draw" (defScope st__law_draw) s.heap.objs.size fa cd)).units + 65 < cLine := by have := hr.rm.un; omega
  have u1 : (A.deeper (envOfC "_law_draw" (defScope st__law_draw) s.heap.objs.size fa cd)).units + 1 < cLine := by have := hr.rm.un; omega
  exact (dss_cons (ds_if (dt_of (dw_and (dt_cmp (od_eq u64) (db_of (de_ix od_ix (db_var 0 (pv 0)) (db_of de_int) (fun _ _ => rfl))) (db_of de_int) (by with_unfolding_all rfl)) (dw_and1 (dt_cmp od_lt (db_of (de_ix od_ix (db_var 0 (pv 0)) (db_of de_int) (fun _ _ => rfl))) (db_of (de_callB cd_len (by rfl) G.b_len PySem.boot_len (da_cons (db_of (de_ix od_ix (db_var 0 (pv 0)) (db_of de_int) (fun _ _ => rfl))) da_nil))) (by with_unfolding_all rfl))))) (dss_cons (ds_set nd rfl (by first | exact .inl rfl | exact .inr rfl) (dv_of (de_ix od_ix (db_of (de_ix od_ix (db_var 0 (pv 0)) (db_of de_int) (fun _ _ => rfl))) (db_of (de_ix od_ix (db_var 0 (pv 0)) (db_of de_int) (fun _ _ => rfl))) (fun _ _ => rfl)))) (dss_cons (ds_asg (de_op od_add (db_of (de_ix od_ix (db_var 0 (pv 0)) (db_of de_int) (fun _ _ => rfl))) (db_of de_int)) (dg_ixAt (pv 0) de_int)) (dss_cons (ds_asg (de_op od_mod (db_of (de_callTy cd_int (by rfl) G.b_int PyProof.Rows.boot_int (da_cons (db_of (de_op od_add (db_of (de_op od_add (db_of (de_op od_mulA (db_of (de_ix od_ix (db_var 0 (pv 0)) (db_of de_int) (fun _ _ => rfl))) (db_of de_int))) (db_of (de_op od_mulA (db_var 2 (pv 2)) (db_of de_int))))) (db_of de_int))) da_nil))) (db_of de_int)) (dg_ixAt (pv 0) de_int)) (dss_one (ds_if (dt_cmp od_ge (db_var 2 (pv 2)) (db_of (de_op od_pow (db_of de_int) (db_of de_int))) (by with_unfolding_all rfl)) (dss_one (ds_asg (de_var 2 (pv 2)) (dg_ixAt (pv 0) de_int))) dss_nil))))) dss_nil) (dss_cons (ds_if (dt_cmp od_gt (db_of (de_ix od_ix (db_var 0 (pv 0)) (db_of de_int) (fun _ _ => rfl))) (db_of de_int) (by with_unfolding_all rfl)) (dss_cons (ds_set nd rfl (by first | exact .inl rfl | exact .inr rfl) (dv_of (de_op od_mod (db_of (de_callTy cd_int (by rfl) G.b_int PyProof.Rows.boot_int (da_cons (db_of (de_ix od_ix (db_var 0 (pv 0)) (db_of de_int) (fun _ _ => rfl))) da_nil))) (db_var 1 (pv 1))))) (dss_cons (ds_asg (de_op od_divA (db_of (de_ix od_ix (db_var 0 (pv 0)) (db_of de_int) (fun _ _ => rfl))) (db_var 1 (pv 1))) (dg_ixAt (pv 0) de_int)) (dss_one (ds_ret (de_var 3 (pv 3)))))) dss_nil) (dss_cons (ds_asg (de_op od_add (db_of (de_ix od_ix (db_var 0 (pv 0)) (db_of de_int) (fun _ _ => rfl))) (db_of de_int)) (dg_ixAt (pv 0) de_int)) (dss_cons (ds_set nd rfl (by first | exact .inl rfl | exact .inr rfl) (dv_of (de_op od_mod (db_of (de_callTy cd_int (by rfl) G.b_int PyProof.Rows.boot_int (da_cons (db_of (de_op od_mulA (db_of (de_callTy cd_int (by rfl) G.b_int PyProof.Rows.boot_int (da_cons (db_of (de_op od_add (db_of (de_ix od_ix (db_var 0 (pv 0)) (db_of de_int) (fun _ _ => rfl))) (db_of (de_op od_mulA (db_of de_int) (db_of (de_ix od_ix (db_var 0 (pv 0)) (db_of de_int) (fun _ _ => rfl))))))) da_nil))) (db_of de_int))) da_nil))) (db_of de_int)))) (dss_cons (ds_set nd rfl (by first | exact .inl rfl | exact .inr rfl) (dv_of (de_op od_mod (db_of (de_callTy cd_int (by rfl) G.b_int PyProof.Rows.boot_int (da_cons (db_of (de_op od_mulA (db_var 4 (pv 4)) (db_of (de_op od_add (db_of (de_op od_divA (db_var 4 (pv 4)) (db_of de_int))) (db_of de_int))))) da_nil))) (db_of de_int)))) (dss_cons (ds_set nd rfl (by first | exact .inl rfl | exact .inr rfl) (dv_of (de_op od_mod (db_of (de_callTy cd_int (by rfl) G.b_int PyProof.Rows.boot_int (da_cons (db_of (de_op od_mulA (db_var 4 (pv 4)) (db_of (de_op od_add (db_of (de_op od_divA (db_var 4 (pv 4)) (db_of de_int))) (db_of de_int))))) da_nil))) (db_of de_int)))) (dss_one (ds_ret (de_op od_mod (db_of (de_callTy cd_int (by rfl) G.b_int PyProof.Rows.boot_int (da_cons (db_of (de_op od_divA (db_var 4 (pv 4)) (db_of de_int))) da_nil))) (db_var 1 (pv 1)))))))))))

/-! ### _law_any: slots 0 hand, 1 things -/
abbrev st__law_any : Stmt := topS 37
abbrev N__law_any : List Str := ["hand", "things"]
theorem sc__law_any : FnScope N__law_any ["hand", "things"] (defScope st__law_any) := ⟨rfl, rfl, rfl, by decide +kernel, rfl, by decide +kernel, by decide +kernel⟩
def w__law_any (J : GJ) : WS := sRet (w2 oIx (wB 1) (wOf (wCall J S__law_draw 2 (wCons (wOf (wVar 0)) (wCons (wOf (wPr oLen (wCons (wB 1) wNil))) wNil)))))
theorem b__law_any {g : Bool} {P : Program} {w : World} {K : PySem.W.Frag} {mg : Str → Option Value} {base : Heap} (G : Glo K mg) (c__law_draw : CalG g P w K mg base 1 "_law_draw" S__law_draw 2) (J : GJ) {fa : Addr} {cd : Value} {A : Around} {outer : List Env} {s : Shared} {H : Hp} {E : XK} (hr : Rm g 1 (A.deeper (envOfC "_law_any" (defScope st__law_any) s.heap.objs.size fa cd))) :
    DSs (cxOf L2.CX0 P w K mg base N__law_any "_law_any" (defScope st__law_any) fa cd A outer s H E).nox J (defBody st__law_any) (w__law_any J) := by
  have nd : N__law_any.Nodup := sc__law_any.nd
  have u64 := hr.rm.units
  have u65 : (A.deeper (envOfC "_law_any" (defScope st__law_any) s.heap.objs.size fa cd)).units + 65 < cLine := by have := hr.rm.un; omega
  have u1 : (A.deeper (envOfC "_law_any" (defScope st__law_any) s.heap.objs.size fa cd)).units + 1 < cLine := by have := hr.rm.un; omega
  exact (dss_one (ds_ret (de_ix od_ix (db_var 1 (pv 1)) (db_of (de_call c__law_draw hr (by decide) (by rfl) (da_cons (db_of (de_var 0 (pv 0))) (da_cons (db_of (de_callB cd_len (by rfl) G.b_len PySem.boot_len (da_cons (db_var 1 (pv 1)) da_nil))) da_nil)))) (fun _ _ => rfl))))
theorem c__law_any {g : Bool} {P : Program} {w : World} {K : PySem.W.Frag} {mg : Str → Option Value} {base : Heap} (G : Glo K mg) (c__law_draw : CalG g P w K mg base 1 "_law_draw" S__law_draw 2) {f : Addr} {fd : FuncData} (Fu : L2.Fun K "_law_any" "_law_any" st__law_any f fd) (hm : mg "_law_any" = some (.ref f)) (hb : Binds K fd ["hand", "things"] []) (ver : ∀ (J : GJ) (ds : List D) (q : D → Prop), ds.length = 2 → S__law_any J ds q → w__law_any J (startE N__law_any ds) { nx := fun _ => q .non, rt := fun d _ => q d }) : CalG g P w K mg base 2 "_law_any" S__law_any 2 :=
  cal_D Fu sc__law_any hm hb (fun J cd A outer s H E hr => b__law_any G c__law_draw J hr) ver

/-! ### _law_like: slots 0 told, 1 due -/
abbrev st__law_like : Stmt := topS 38
abbrev N__law_like : List Str := ["told", "due"]
theorem sc__law_like : FnScope N__law_like ["told", "due"] (defScope st__law_like) := ⟨rfl, rfl, rfl, by decide +kernel, rfl, by decide +kernel, by decide +kernel⟩
def w__law_like (J : GJ) : WS := sRet (w2 oEq (wOf (wPr oRepr (wCons (wB 0) wNil))) (wOf (wPr oRepr (wCons (wB 1) wNil))))
theorem b__law_like {P : Program} {w : World} {K : PySem.W.Frag} {mg : Str → Option Value} {base : Heap} (G : Glo K mg)  (J : GJ) {fa : Addr} {cd : Value} {A : Around} {outer : List Env} {s : Shared} {H : Hp} {E : XK} (hr : Rm true 0 (A.deeper (envOfC "_law_like" (defScope st__law_like) s.heap.objs.size fa cd))) :
    DSs (cxOf L2.CX0 P w K mg base N__law_like "_law_like" (defScope st__law_like) fa cd A outer s H E).nox J (defBody st__law_like) (w__law_like J) := by
  have nd : N__law_like.Nodup := sc__law_like.nd
  have gd := hr.gd rfl
  have u64 := hr.rm.units
  have u65 : (A.deeper (envOfC "_law_like" (defScope st__law_like) s.heap.objs.size fa cd)).units + 65 < cLine := by have := hr.rm.un; omega
  have u1 : (A.deeper (envOfC "_law_like" (defScope st__law_like) s.heap.objs.size fa cd)).units + 1 < cLine := by have := hr.rm.un; omega
  exact (dss_one (ds_ret (de_cmp (od_eq u64) (db_of (de_callB (cd_repr gd u64) (by rfl) G.b_repr PyProof.Rows.boot_repr (da_cons (db_var 0 (pv 0)) da_nil))) (db_of (de_callB (cd_repr gd u64) (by rfl) G.b_repr PyProof.Rows.boot_repr (da_cons (db_var 1 (pv 1)) da_nil))) (by with_unfolding_all rfl))))
theorem c__law_like {P : Program} {w : World} {K : PySem.W.Frag} {mg : Str → Option Value} {base : Heap} (G : Glo K mg)  {f : Addr} {fd : FuncData} (Fu : L2.Fun K "_law_like" "_law_like" st__law_like f fd) (hm : mg "_law_like" = some (.ref f)) (hb : Binds K fd ["told", "due"] []) (ver : ∀ (J : GJ) (ds : List D) (q : D → Prop), ds.length = 2 → S__law_like J ds q → w__law_like J (startE N__law_like ds) { nx := fun _ => q .non, rt := fun d _ => q d }) : CalG true P w K mg base 1 "_law_like" S__law_like 2 :=
  cal_D Fu sc__law_like hm hb (fun J cd A outer s H E hr => b__law_like G  J hr) ver

/-! ### _law_low: slots 0 top, 1 bottom, 2 one, 3 other -/
abbrev st__law_low : Stmt := topS 39
abbrev N__law_low : List Str := ["top", "bottom", "one", "other"]
theorem sc__law_low : FnScope N__law_low ["top", "bottom"] (defScope st__law_low) := ⟨rfl, rfl, rfl, by decide +kernel, rfl, by decide +kernel, by decide +kernel⟩
def w__law_low (J : GJ) : WS := sSeq (sPar 2 3 (wVal (wPr oAbs (wCons (wB 0) wNil))) (wVal (wVar 1))) (sSeq (sWhile (wTB (w2 oGt (wB 3) (wOf (wC (.int 0))))) (sPar 2 3 (wVal (wVar 3)) (wVal (w2 oMod (wOf (wPr oInt (wCons (wB 2) wNil))) (wB 3))))) (sRet (wTup (wCons (wOf (w2 oDivA (wB 0) (wB 2))) (wCons (wOf (w2 oDivA (wB 1) (wB 2))) wNil)))))
theorem b__law_low {g : Bool} {P : Program} {w : World} {K : PySem.W.Frag} {mg : Str → Option Value} {base : Heap} (G : Glo K mg)  (J : GJ) {fa : Addr} {cd : Value} {A : Around} {outer : List Env} {s : Shared} {H : Hp} {E : XK} (hr : Rm g 0 (A.deeper (envOfC "_law_low" (defScope st__law_low) s.heap.objs.size fa cd))) :
    DSs (cxOf L2.CX0 P w K mg base N__law_low "_law_low" (defScope st__law_low) fa cd A outer s H E).nox J (defBody st__law_low) (w__law_low J) := by
  have nd : N__law_low.Nodup := sc__law_low.nd
  have u64 := hr.rm.units
  have u65 : (A.deeper (envOfC "_law_low" (defScope st__law_low) s.heap.objs.size fa cd)).units + 65 < cLine := by have := hr.rm.un; omega
  have u1 : (A.deeper (envOfC "_law_low" (defScope st__law_low) s.heap.objs.size fa cd)).units + 1 < cLine := by have := hr.rm.un; omega
  exact (dss_cons (ds_par rfl nd rfl rfl (by decide) rfl rfl (dv_of (de_callB cd_abs (by rfl) G.b_abs PyProof.Rows.boot_abs (da_cons (db_var 0 (pv 0)) da_nil))) (dv_of (de_var 1 (pv 1))) rfl) (dss_cons (ds_while PassesOwn.never (dt_cmp od_gt (db_var 3 (pv 3)) (db_of de_int) (by with_unfolding_all rfl)) (dss_one (ds_par rfl nd rfl rfl (by decide) rfl rfl (dv_of (de_var 3 (pv 3))) (dv_of (de_op od_mod (db_of (de_callTy cd_int (by rfl) G.b_int PyProof.Rows.boot_int (da_cons (db_var 2 (pv 2)) da_nil))) (db_var 3 (pv 3)))) rfl))) (dss_one (ds_ret (de_tup (da_cons (db_of (de_op od_divA (db_var 0 (pv 0)) (db_var 2 (pv 2)))) (da_cons (db_of (de_op od_divA (db_var 1 (pv 1)) (db_var 2 (pv 2)))) da_nil)))))))
theorem c__law_low {g : Bool} {P : Program} {w : World} {K : PySem.W.Frag} {mg : Str → Option Value} {base : Heap} (G : Glo K mg)  {f : Addr} {fd : FuncData} (Fu : L2.Fun K "_law_low" "_law_low" st__law_low f fd) (hm : mg "_law_low" = some (.ref f)) (hb : Binds K fd ["top", "bottom"] []) (ver : ∀ (J : GJ) (ds : List D) (q : D → Prop), ds.length = 2 → S__law_low J ds q → w__law_low J (startE N__law_low ds) { nx := fun _ => q .non, rt := fun d _ => q d }) : CalG g P w K mg base 1 "_law_low" S__law_low 2 :=
  cal_D Fu sc__law_low hm hb (fun J cd A outer s H E hr => b__law_low G  J hr) ver

/-! ### _law_below: slots 0 one, 1 other -/
abbrev st__law_below : Stmt := topS 40
abbrev N__law_below : List Str := ["one", "other"]
theorem sc__law_below : FnScope N__law_below ["one", "other"] (defScope st__law_below) := ⟨rfl, rfl, rfl, by decide +kernel, rfl, by decide +kernel, by decide +kernel⟩
def w__law_below (J : GJ) : WS := sRet (w2 oLt (wOf (w2 oMulA (wOf (w2 oIx (wB 0) (wOf (wC (.int 0))))) (wOf (w2 oIx (wB 1) (wOf (wC (.int 1))))))) (wOf (w2 oMulA (wOf (w2 oIx (wB 1) (wOf (wC (.int 0))))) (wOf (w2 oIx (wB 0) (wOf (wC (.int 1))))))))
theorem b__law_below {g : Bool} {P : Program} {w : World} {K : PySem.W.Frag} {mg : Str → Option Value} {base : Heap} (G : Glo K mg)  (J : GJ) {fa : Addr} {cd : Value} {A : Around} {outer : List Env} {s : Shared} {H : Hp} {E : XK} (hr : Rm g 0 (A.deeper (envOfC "_law_below" (defScope st__law_below) s.heap.objs.size fa cd))) :
    DSs (cxOf L2.CX0 P w K mg base N__law_below "_law_below" (defScope st__law_below) fa cd A outer s H E).nox J (defBody st__law_below) (w__law_below J) := by
  have nd : N__law_below.Nodup := sc__law_below.nd
  have u64 := hr.rm.units
  have u65 : (A.deeper (envOfC "_law_below" (defScope st__law_below) s.heap.objs.size fa cd)).units + 65 < cLine := by have := hr.rm.un; omega
  have u1 : (A.deeper (envOfC "_law_below" (defScope st__law_below) s.heap.objs.size fa cd)).units + 1 < cLine := by have := hr.rm.un; omega
  exact (dss_one (ds_ret (de_cmp od_lt (db_of (de_op od_mulA (db_of (de_ix od_ix (db_var 0 (pv 0)) (db_of de_int) (fun _ _ => rfl))) (db_of (de_ix od_ix (db_var 1 (pv 1)) (db_of de_int) (fun _ _ => rfl))))) (db_of (de_op od_mulA (db_of (de_ix od_ix (db_var 1 (pv 1)) (db_of de_int) (fun _ _ => rfl))) (db_of (de_ix od_ix (db_var 0 (pv 0)) (db_of de_int) (fun _ _ => rfl))))) (by with_unfolding_all rfl))))
theorem c__law_below {g : Bool} {P : Program} {w : World} {K : PySem.W.Frag} {mg : Str → Option Value} {base : Heap} (G : Glo K mg)  {f : Addr} {fd : FuncData} (Fu : L2.Fun K "_law_below" "_law_below" st__law_below f fd) (hm : mg "_law_below" = some (.ref f)) (hb : Binds K fd ["one", "other"] []) (ver : ∀ (J : GJ) (ds : List D) (q : D → Prop), ds.length = 2 → S__law_below J ds q → w__law_below J (startE N__law_below ds) { nx := fun _ => q .non, rt := fun d _ => q d }) : CalG g P w K mg base 1 "_law_below" S__law_below 2 :=
  cal_D Fu sc__law_below hm hb (fun J cd A outer s H E hr => b__law_below G  J hr) ver

/-! ### _law_votes: slots 0 hand, 1 most, 2 found, 3 turn -/
abbrev st__law_votes : Stmt := topS 41
abbrev N__law_votes : List Str := ["hand", "most", "found", "turn"]
theorem sc__law_votes : FnScope N__law_votes ["hand"] (defScope st__law_votes) := ⟨rfl, rfl, rfl, by decide +kernel, rfl, by decide +kernel, by decide +kernel⟩
def w__law_votes (J : GJ) : WS := sSeq (sSet 1 (wVal (wCall J S__law_any 2 (wCons (wOf (wVar 0)) (wCons (wOf (wLst (wCons (wOf (wC (.int 3))) (wCons (wOf (wC (.int 9))) (wCons (wOf (wC (.int 100))) (wCons (wOf (w2 oPow (wOf (wC (.int 10))) (wOf (wC (.int 12))))) wNil)))))) wNil))))) (sSeq (sSet 2 (wVal (wLC [3] (wR1 (wCons (wOf (w2 oAdd (wOf (wC (.int 1))) (wOf (wCall J S__law_draw 2 (wCons (wOf (wVar 0)) (wCons (wOf (wC (.int 6))) wNil)))))) wNil)) (gN 3) wYes (wCall J S__law_draw 2 (wCons (wOf (wVar 0)) (wCons (wOf (wVar 1)) wNil)))))) (sSeq (sSet 2 (wVal (wIf (wTB (w2 oEq (wOf (wCall J S__law_draw 2 (wCons (wOf (wVar 0)) (wCons (wOf (wC (.int 6))) wNil)))) (wOf (wC (.int 0))))) (w2 oMulA (wOf (wSl oSl (wB 2) wONone (wOSome (wC (.int 1))))) (wOf (wPr oLen (wCons (wB 2) wNil)))) (wVar 2)))) (sRet (wIf (wTB (w2 oGt (wOf (wPr oSumA (wCons (wB 2) wNil))) (wOf (wC (.int 0))))) (wPr oTuple (wCons (wB 2) wNil)) (wPr oTuple (wCons (wOf (w2 oAdd (wOf (wSl oSl (wB 2) wONone (wOSome (w1 oNeg (wOf (wC (.int 1))))))) (wOf (wLst (wCons (wOf (wC (.int 1))) wNil))))) wNil))))))
theorem b__law_votes {g : Bool} {P : Program} {w : World} {K : PySem.W.Frag} {mg : Str → Option Value} {base : Heap} (G : Glo K mg) (c__law_any : CalG g P w K mg base 2 "_law_any" S__law_any 2) (c__law_draw : CalG g P w K mg base 1 "_law_draw" S__law_draw 2) (J : GJ) {fa : Addr} {cd : Value} {A : Around} {outer : List Env} {s : Shared} {H : Hp} {E : XK} (hr : Rm g 2 (A.deeper (envOfC "_law_votes" (defScope st__law_votes) s.heap.objs.size fa cd))) :
    DSs (cxOf L2.CX0 P w K mg base N__law_votes "_law_votes" (defScope st__law_votes) fa cd A outer s H E).nox J (defBody st__law_votes) (w__law_votes J) := by
  have nd : N__law_votes.Nodup := sc__law_votes.nd
  have u64 := hr.rm.units
  have u65 : (A.deeper (envOfC "_law_votes" (defScope st__law_votes) s.heap.objs.size fa cd)).units + 65 < cLine := by have := hr.rm.un; omega
  have u1 : (A.deeper (envOfC "_law_votes" (defScope st__law_votes) s.heap.objs.size fa cd)).units + 1 < cLine := by have := hr.rm.un; omega
  exact (dss_cons (ds_set nd rfl (by first | exact .inl rfl | exact .inr rfl) (dv_of (de_call c__law_any hr (by decide) (by rfl) (da_cons (db_of (de_var 0 (pv 0))) (da_cons (db_of (de_lst (da_cons (db_of de_int) (da_cons (db_of de_int) (da_cons (db_of de_int) (da_cons (db_of (de_op od_pow (db_of de_int) (db_of de_int))) da_nil)))))) da_nil))))) (dss_cons (ds_setLc rfl nd rfl rfl rfl (di_r1 (by rfl) G.b_range (da_cons (db_of (de_op od_add (db_of de_int) (db_of (de_call c__law_draw hr (by decide) (by rfl) (da_cons (db_of (de_var 0 (pv 0))) (da_cons (db_of de_int) da_nil)))))) da_nil)) (blkOk_by (own := [("turn", 3)]) (by kernel_rfl)) (fun _ _ _ _ _ => (dg_name 3 (L2.pg_name nd rfl (by first | exact .inl rfl | exact .inr rfl)))) (fun _ _ _ _ _ => dts_nil) (fun _ _ _ _ _ => (de_call c__law_draw hr (by decide) (by rfl) (da_cons (db_of (de_var 0 (pv 0))) (da_cons (db_of (de_var 1 (pv 1))) da_nil))))) (dss_cons (ds_set nd rfl (by first | exact .inl rfl | exact .inr rfl) (dv_of (de_if (dt_cmp (od_eq u64) (db_of (de_call c__law_draw hr (by decide) (by rfl) (da_cons (db_of (de_var 0 (pv 0))) (da_cons (db_of de_int) da_nil)))) (db_of de_int) (by with_unfolding_all rfl)) (de_op od_mulA (db_of (de_sl od_sl (db_var 2 (pv 2)) do_none (do_some de_int))) (db_of (de_callB cd_len (by rfl) G.b_len PySem.boot_len (da_cons (db_var 2 (pv 2)) da_nil)))) (de_var 2 (pv 2))))) (dss_one (ds_ret (de_if (dt_cmp od_gt (db_of (de_callB (cd_sumA rfl) (by rfl) G.b_sum PyProof.Rows.boot_sum (da_cons (db_var 2 (pv 2)) da_nil))) (db_of de_int) (by with_unfolding_all rfl)) (de_callTy cd_tuple (by rfl) G.b_tuple PyProof.Rows.boot_tuple (da_cons (db_var 2 (pv 2)) da_nil)) (de_callTy cd_tuple (by rfl) G.b_tuple PyProof.Rows.boot_tuple (da_cons (db_of (de_op od_add (db_of (de_sl od_sl (db_var 2 (pv 2)) do_none (do_some (de_un ud_neg (db_of de_int))))) (db_of (de_lst (da_cons (db_of de_int) da_nil))))) da_nil))))))))
theorem c__law_votes {g : Bool} {P : Program} {w : World} {K : PySem.W.Frag} {mg : Str → Option Value} {base : Heap} (G : Glo K mg) (c__law_any : CalG g P w K mg base 2 "_law_any" S__law_any 2) (c__law_draw : CalG g P w K mg base 1 "_law_draw" S__law_draw 2) {f : Addr} {fd : FuncData} (Fu : L2.Fun K "_law_votes" "_law_votes" st__law_votes f fd) (hm : mg "_law_votes" = some (.ref f)) (hb : Binds K fd ["hand"] []) (ver : ∀ (J : GJ) (ds : List D) (q : D → Prop), ds.length = 1 → S__law_votes J ds q → w__law_votes J (startE N__law_votes ds) { nx := fun _ => q .non, rt := fun d _ => q d }) : CalG g P w K mg base 3 "_law_votes" S__law_votes 1 :=
  cal_D Fu sc__law_votes hm hb (fun J cd A outer s H E hr => b__law_votes G c__law_any c__law_draw J hr) ver

/-! ### _law_next: slots 0 votes, 1 told, 2 rule, 3 some, 4 at, 5 one, 6 best, 7 bottom -/
abbrev st__law_next : Stmt := topS 42
abbrev N__law_next : List Str := ["votes", "told", "rule", "some", "at", "one", "best", "bottom"]
theorem sc__law_next : FnScope N__law_next ["votes", "told", "rule"] (defScope st__law_next) := ⟨rfl, rfl, rfl, by decide +kernel, rfl, by decide +kernel, by decide +kernel⟩
def w__law_next (J : GJ) : WS := sSeq (sIf (wTB (w2 oEq (wB 2) (wOf (wC (.str "up"))))) (sSeq (sSet 3 (wVal (wLC [4, 5] (wEn (wCons (wOf (wVar 0)) wNil)) (gTup 2 (gCons (gN 4) (gCons (gN 5) gNil))) (wTAnd (wTB (w2 oGt (wB 5) (wOf (wC (.int 0))))) (wTB (w2 oEq (wOf (w2 oIx (wB 1) (wB 4))) (wOf (wC (.int 0)))))) (wTup (wCons (wOf (w2 oSub (wOf (wC (.int 0))) (wB 5))) (wCons (wOf (wVar 4)) wNil)))))) (sIf (wTB (w2 oNe (wB 3) (wOf (wLst wNil)))) (sRet (w2 oIx (wOf (wPr oMinA (wCons (wB 3) wNil))) (wOf (wC (.int 1))))) sNil)) sNil) (sSeq (sSet 6 (wVal (wC .non))) (sSeq (sFor (wEn (wCons (wOf (wVar 0)) wNil)) (gTup 2 (gCons (gN 4) (gCons (gN 5) gNil))) (sSeq (sSet 7 (wVal (wAsk [("first", (w2 oAdd (wOf (w2 oIx (wB 1) (wB 4))) (wOf (wC (.int 1))))), ("middle", (w2 oAdd (wOf (w2 oMulA (wOf (wC (.int 2))) (wOf (w2 oIx (wB 1) (wB 4))))) (wOf (wC (.int 1))))), ("up", (w2 oIx (wB 1) (wB 4)))] (wVar 2)))) (sIf (wTAnd (wTB (w2 oGt (wB 7) (wOf (wC (.int 0))))) (wTOr (wTB (wIsN (wVar 6))) (wTB (wCall J S__law_below 2 (wCons (wOf (w2 oIx (wB 6) (wOf (wC (.int 1))))) (wCons (wOf (wTup (wCons (wOf (wVar 5)) (wCons (wOf (wVar 7)) wNil)))) wNil)))))) (sSet 6 (wVal (wTup (wCons (wOf (wVar 4)) (wCons (wOf (wTup (wCons (wOf (wVar 5)) (wCons (wOf (wVar 7)) wNil)))) wNil))))) sNil))) (sRet (w2 oIx (wB 6) (wOf (wC (.int 0)))))))
theorem b__law_next {g : Bool} {P : Program} {w : World} {K : PySem.W.Frag} {mg : Str → Option Value} {base : Heap} (G : Glo K mg) (c__law_below : CalG g P w K mg base 1 "_law_below" S__law_below 2) (J : GJ) {fa : Addr} {cd : Value} {A : Around} {outer : List Env} {s : Shared} {H : Hp} {E : XK} (hr : Rm g 1 (A.deeper (envOfC "_law_next" (defScope st__law_next) s.heap.objs.size fa cd))) :
    DSs (cxOf L2.CX0 P w K mg base N__law_next "_law_next" (defScope st__law_next) fa cd A outer s H E).nox J (defBody st__law_next) (w__law_next J) := by
  have nd : N__law_next.Nodup := sc__law_next.nd
  have u64 := hr.rm.units
  have u65 : (A.deeper (envOfC "_law_next" (defScope st__law_next) s.heap.objs.size fa cd)).units + 65 < cLine := by have := hr.rm.un; omega
  have u1 : (A.deeper (envOfC "_law_next" (defScope st__law_next) s.heap.objs.size fa cd)).units + 1 < cLine := by have := hr.rm.un; omega
  exact (dss_cons (ds_if (dt_cmp (od_eq u64) (db_var 2 (pv 2)) (db_of de_str) (by with_unfolding_all rfl)) (dss_cons (ds_setLc rfl nd rfl rfl rfl (di_enum (by rfl) G.b_enumerate (da_cons (db_of (de_var 0 (pv 0))) da_nil)) (blkOk_by (own := [("at", 4), ("one", 5)]) (by kernel_rfl)) (fun _ _ _ _ _ => (dg_tup rfl (dgs_cons (dg_name 4 (L2.pg_name nd rfl (by first | exact .inl rfl | exact .inr rfl))) (dgs_cons (dg_name 5 (L2.pg_name nd rfl (by first | exact .inl rfl | exact .inr rfl))) dgs_nil)))) (fun _ _ _ _ _ => dts_one (dt_of (dw_and (dt_cmp od_gt (db_var 5 (pv 5)) (db_of de_int) (by with_unfolding_all rfl)) (dw_and1 (dt_cmp (od_eq u64) (db_of (de_ix od_ix (db_var 1 (pv 1)) (db_var 4 (pv 4)) (fun _ _ => rfl))) (db_of de_int) (by with_unfolding_all rfl)))))) (fun _ _ _ _ _ => (de_tup (da_cons (db_of (de_op od_sub (db_of de_int) (db_var 5 (pv 5)))) (da_cons (db_of (de_var 4 (pv 4))) da_nil))))) (dss_one (ds_if (dt_cmp (od_ne u64) (db_var 3 (pv 3)) (db_of (de_lst da_nil)) (by with_unfolding_all rfl)) (dss_one (ds_ret (de_ix od_ix (db_of (de_callB (cd_minA rfl u65) (by rfl) G.b_min PyProof.Rows.boot_min (da_cons (db_var 3 (pv 3)) da_nil))) (db_of de_int) (fun _ _ => rfl)))) dss_nil))) dss_nil) (dss_cons (ds_set nd rfl (by first | exact .inl rfl | exact .inr rfl) (dv_of de_non)) (dss_cons (ds_for PassesOwn.never rfl (di_enum (by rfl) G.b_enumerate (da_cons (db_of (de_var 0 (pv 0))) da_nil)) (dg_tup rfl (dgs_cons (dg_name 4 (L2.pg_name nd rfl (by first | exact .inl rfl | exact .inr rfl))) (dgs_cons (dg_name 5 (L2.pg_name nd rfl (by first | exact .inl rfl | exact .inr rfl))) dgs_nil))) (dss_cons (ds_set nd rfl (by first | exact .inl rfl | exact .inr rfl) (dv_of (de_ask u1 (PsD.cons (de_op od_add (db_of (de_ix od_ix (db_var 1 (pv 1)) (db_var 4 (pv 4)) (fun _ _ => rfl))) (db_of de_int)) (PsD.cons (de_op od_add (db_of (de_op od_mulA (db_of de_int) (db_of (de_ix od_ix (db_var 1 (pv 1)) (db_var 4 (pv 4)) (fun _ _ => rfl))))) (db_of de_int)) (PsD.cons (de_ix od_ix (db_var 1 (pv 1)) (db_var 4 (pv 4)) (fun _ _ => rfl)) PsD.nil))) (de_var 2 (pv 2)) (fun _ _ => rfl)))) (dss_one (ds_if (dt_of (dw_and (dt_cmp od_gt (db_var 7 (pv 7)) (db_of de_int) (by with_unfolding_all rfl)) (dw_and1 (dt_of (dw_or (dt_isN (de_var 6 (pv 6))) (dw_or1 (dt_val (de_call c__law_below hr (by decide) (by rfl) (da_cons (db_of (de_ix od_ix (db_var 6 (pv 6)) (db_of de_int) (fun _ _ => rfl))) (da_cons (db_of (de_tup (da_cons (db_of (de_var 5 (pv 5))) (da_cons (db_of (de_var 7 (pv 7))) da_nil)))) da_nil)))))))))) (dss_one (ds_set nd rfl (by first | exact .inl rfl | exact .inr rfl) (dv_of (de_tup (da_cons (db_of (de_var 4 (pv 4))) (da_cons (db_of (de_tup (da_cons (db_of (de_var 5 (pv 5))) (da_cons (db_of (de_var 7 (pv 7))) da_nil)))) da_nil)))))) dss_nil)))) (dss_one (ds_ret (de_ix od_ix (db_var 6 (pv 6)) (db_of de_int) (fun _ _ => rfl)))))))
theorem c__law_next {g : Bool} {P : Program} {w : World} {K : PySem.W.Frag} {mg : Str → Option Value} {base : Heap} (G : Glo K mg) (c__law_below : CalG g P w K mg base 1 "_law_below" S__law_below 2) {f : Addr} {fd : FuncData} (Fu : L2.Fun K "_law_next" "_law_next" st__law_next f fd) (hm : mg "_law_next" = some (.ref f)) (hb : Binds K fd ["votes", "told", "rule"] []) (ver : ∀ (J : GJ) (ds : List D) (q : D → Prop), ds.length = 3 → S__law_next J ds q → w__law_next J (startE N__law_next ds) { nx := fun _ => q .non, rt := fun d _ => q d }) : CalG g P w K mg base 2 "_law_next" S__law_next 3 :=
  cal_D Fu sc__law_next hm hb (fun J cd A outer s H E hr => b__law_next G c__law_below J hr) ver

/-! ### _law_seats: slots 0 votes, 1 many, 2 rule, 3 whole, 4 found, 5 one, 6 rests, 7 at, 8 lucky, 9 rest, 10 number, 11 turn, 12 to -/
abbrev st__law_seats : Stmt := topS 43
abbrev N__law_seats : List Str := ["votes", "many", "rule", "whole", "found", "one", "rests", "at", "lucky", "rest", "number", "turn", "to"]
theorem sc__law_seats : FnScope N__law_seats ["votes", "many", "rule"] (defScope st__law_seats) := ⟨rfl, rfl, rfl, by decide +kernel, rfl, by decide +kernel, by decide +kernel⟩
def w__law_seats (J : GJ) : WS := sSeq (sSet 3 (wVal (wPr oSumA (wCons (wB 0) wNil)))) (sSeq (sIf (wTB (w2 oEq (wB 2) (wOf (wC (.str "rest"))))) (sSeq (sSet 4 (wVal (wLC [5] (wIs (wVar 0)) (gN 5) wYes (w2 oDivA (wOf (w2 oMulA (wB 5) (wB 1))) (wB 3))))) (sSeq (sSet 6 (wVal (wPr oSortP (wCons (wOf (wLC [7, 5] (wEn (wCons (wOf (wVar 0)) wNil)) (gTup 2 (gCons (gN 7) (gCons (gN 5) gNil))) wYes (wTup (wCons (wOf (w2 oSub (wOf (wC (.int 0))) (wOf (w2 oMod (wOf (wPr oInt (wCons (wOf (w2 oMulA (wB 5) (wB 1))) wNil))) (wB 3))))) (wCons (wOf (wVar 7)) wNil))))) wNil)))) (sSeq (sSet 8 (wVal (wLC [9, 7] (wIs (wSl oSl (wB 6) wONone (wOSome (w2 oSub (wB 1) (wOf (wPr oSumA (wCons (wB 4) wNil))))))) (gTup 2 (gCons (gN 9) (gCons (gN 7) gNil))) wYes (wVar 7)))) (sRet (wPr oTuple (wCons (wOf (wLC [7, 10] (wEn (wCons (wOf (wVar 4)) wNil)) (gTup 2 (gCons (gN 7) (gCons (gN 10) gNil))) wYes (w2 oAdd (wB 10) (wOf (wPr oInt (wCons (wOf (w2 oIn (wB 7) (wB 8))) wNil)))))) wNil)))))) sNil) (sSeq (sSet 4 (wVal (w2 oMulA (wOf (wLst (wCons (wOf (wC (.int 0))) wNil))) (wOf (wPr oLen (wCons (wB 0) wNil)))))) (sSeq (sFor (wR1 (wCons (wOf (wVar 1)) wNil)) (gN 11) (sSeq (sSet 12 (wVal (wCall J S__law_next 3 (wCons (wOf (wVar 0)) (wCons (wOf (wVar 4)) (wCons (wOf (wVar 2)) wNil)))))) (sSet 4 (wVal (wLC [7, 10] (wEn (wCons (wOf (wVar 4)) wNil)) (gTup 2 (gCons (gN 7) (gCons (gN 10) gNil))) wYes (w2 oAdd (wB 10) (wOf (wPr oInt (wCons (wOf (w2 oEq (wB 7) (wB 12))) wNil))))))))) (sRet (wPr oTuple (wCons (wB 4) wNil))))))
theorem b__law_seats {g : Bool} {P : Program} {w : World} {K : PySem.W.Frag} {mg : Str → Option Value} {base : Heap} (G : Glo K mg) (c__law_next : CalG g P w K mg base 2 "_law_next" S__law_next 3) (J : GJ) {fa : Addr} {cd : Value} {A : Around} {outer : List Env} {s : Shared} {H : Hp} {E : XK} (hr : Rm g 2 (A.deeper (envOfC "_law_seats" (defScope st__law_seats) s.heap.objs.size fa cd))) :
    DSs (cxOf L2.CX0 P w K mg base N__law_seats "_law_seats" (defScope st__law_seats) fa cd A outer s H E).nox J (defBody st__law_seats) (w__law_seats J) := by
  have nd : N__law_seats.Nodup := sc__law_seats.nd
  have u64 := hr.rm.units
  have u65 : (A.deeper (envOfC "_law_seats" (defScope st__law_seats) s.heap.objs.size fa cd)).units + 65 < cLine := by have := hr.rm.un; omega
  have u1 : (A.deeper (envOfC "_law_seats" (defScope st__law_seats) s.heap.objs.size fa cd)).units + 1 < cLine := by have := hr.rm.un; omega
  exact (dss_cons (ds_set nd rfl (by first | exact .inl rfl | exact .inr rfl) (dv_of (de_callB (cd_sumA rfl) (by rfl) G.b_sum PyProof.Rows.boot_sum (da_cons (db_var 0 (pv 0)) da_nil)))) (dss_cons (ds_if (dt_cmp (od_eq u64) (db_var 2 (pv 2)) (db_of de_str) (by with_unfolding_all rfl)) (dss_cons (ds_setLc rfl nd rfl rfl rfl (di_seq (de_var 0 (pv 0))) (blkOk_by (own := [("one", 5)]) (by kernel_rfl)) (fun _ _ _ _ _ => (dg_name 5 (L2.pg_name nd rfl (by first | exact .inl rfl | exact .inr rfl)))) (fun _ _ _ _ _ => dts_nil) (fun _ _ _ _ _ => (de_op od_divA (db_of (de_op od_mulA (db_var 5 (pv 5)) (db_var 1 (pv 1)))) (db_var 3 (pv 3))))) (dss_cons (ds_set nd rfl (by first | exact .inl rfl | exact .inr rfl) (dv_of (de_callB cd_sortP (by rfl) G.b_sorted PyProof.Rows.boot_sorted (da_cons (db_of (de_lc rfl nd (di_enum (by rfl) G.b_enumerate (da_cons (db_of (de_var 0 (pv 0))) da_nil)) (blkOk_by (own := [("at", 7), ("one", 5)]) (by kernel_rfl)) (fun _ _ _ _ _ => (dg_tup rfl (dgs_cons (dg_name 7 (L2.pg_name nd rfl (by first | exact .inl rfl | exact .inr rfl))) (dgs_cons (dg_name 5 (L2.pg_name nd rfl (by first | exact .inl rfl | exact .inr rfl))) dgs_nil)))) (fun _ _ _ _ _ => dts_nil) (fun _ _ _ _ _ => (de_tup (da_cons (db_of (de_op od_sub (db_of de_int) (db_of (de_op od_mod (db_of (de_callTy cd_int (by rfl) G.b_int PyProof.Rows.boot_int (da_cons (db_of (de_op od_mulA (db_var 5 (pv 5)) (db_var 1 (pv 1)))) da_nil))) (db_var 3 (pv 3)))))) (da_cons (db_of (de_var 7 (pv 7))) da_nil)))))) da_nil)))) (dss_cons (ds_set nd rfl (by first | exact .inl rfl | exact .inr rfl) (dv_of (de_lc rfl nd (di_seq (de_sl od_sl (db_var 6 (pv 6)) do_none (do_some (de_op od_sub (db_var 1 (pv 1)) (db_of (de_callB (cd_sumA rfl) (by rfl) G.b_sum PyProof.Rows.boot_sum (da_cons (db_var 4 (pv 4)) da_nil))))))) (blkOk_by (own := [("rest", 9), ("at", 7)]) (by kernel_rfl)) (fun _ _ _ _ _ => (dg_tup rfl (dgs_cons (dg_name 9 (L2.pg_name nd rfl (by first | exact .inl rfl | exact .inr rfl))) (dgs_cons (dg_name 7 (L2.pg_name nd rfl (by first | exact .inl rfl | exact .inr rfl))) dgs_nil)))) (fun _ _ _ _ _ => dts_nil) (fun _ _ _ _ _ => (de_var 7 (pv 7)))))) (dss_one (ds_ret (de_callTy cd_tuple (by rfl) G.b_tuple PyProof.Rows.boot_tuple (da_cons (db_of (de_lc rfl nd (di_enum (by rfl) G.b_enumerate (da_cons (db_of (de_var 4 (pv 4))) da_nil)) (blkOk_by (own := [("at", 7), ("number", 10)]) (by kernel_rfl)) (fun _ _ _ _ _ => (dg_tup rfl (dgs_cons (dg_name 7 (L2.pg_name nd rfl (by first | exact .inl rfl | exact .inr rfl))) (dgs_cons (dg_name 10 (L2.pg_name nd rfl (by first | exact .inl rfl | exact .inr rfl))) dgs_nil)))) (fun _ _ _ _ _ => dts_nil) (fun _ _ _ _ _ => (de_op od_add (db_var 10 (pv 10)) (db_of (de_callTy cd_int (by rfl) G.b_int PyProof.Rows.boot_int (da_cons (db_of (de_cmp (od_in u65) (db_var 7 (pv 7)) (db_var 8 (pv 8)) (by with_unfolding_all rfl))) da_nil))))))) da_nil))))))) dss_nil) (dss_cons (ds_set nd rfl (by first | exact .inl rfl | exact .inr rfl) (dv_of (de_op od_mulA (db_of (de_lst (da_cons (db_of de_int) da_nil))) (db_of (de_callB cd_len (by rfl) G.b_len PySem.boot_len (da_cons (db_var 0 (pv 0)) da_nil)))))) (dss_cons (ds_for PassesOwn.never rfl (di_r1 (by rfl) G.b_range (da_cons (db_of (de_var 1 (pv 1))) da_nil)) (dg_name 11 (L2.pg_name nd rfl (by first | exact .inl rfl | exact .inr rfl))) (dss_cons (ds_set nd rfl (by first | exact .inl rfl | exact .inr rfl) (dv_of (de_call c__law_next hr (by decide) (by rfl) (da_cons (db_of (de_var 0 (pv 0))) (da_cons (db_of (de_var 4 (pv 4))) (da_cons (db_of (de_var 2 (pv 2))) da_nil)))))) (dss_one (ds_setLc rfl nd rfl rfl rfl (di_enum (by rfl) G.b_enumerate (da_cons (db_of (de_var 4 (pv 4))) da_nil)) (blkOk_by (own := [("at", 7), ("number", 10)]) (by kernel_rfl)) (fun _ _ _ _ _ => (dg_tup rfl (dgs_cons (dg_name 7 (L2.pg_name nd rfl (by first | exact .inl rfl | exact .inr rfl))) (dgs_cons (dg_name 10 (L2.pg_name nd rfl (by first | exact .inl rfl | exact .inr rfl))) dgs_nil)))) (fun _ _ _ _ _ => dts_nil) (fun _ _ _ _ _ => (de_op od_add (db_var 10 (pv 10)) (db_of (de_callTy cd_int (by rfl) G.b_int PyProof.Rows.boot_int (da_cons (db_of (de_cmp (od_eq u64) (db_var 7 (pv 7)) (db_var 12 (pv 12)) (by with_unfolding_all rfl))) da_nil))))))))) (dss_one (ds_ret (de_callTy cd_tuple (by rfl) G.b_tuple PyProof.Rows.boot_tuple (da_cons (db_var 4 (pv 4)) da_nil))))))))
theorem c__law_seats {g : Bool} {P : Program} {w : World} {K : PySem.W.Frag} {mg : Str → Option Value} {base : Heap} (G : Glo K mg) (c__law_next : CalG g P w K mg base 2 "_law_next" S__law_next 3) {f : Addr} {fd : FuncData} (Fu : L2.Fun K "_law_seats" "_law_seats" st__law_seats f fd) (hm : mg "_law_seats" = some (.ref f)) (hb : Binds K fd ["votes", "many", "rule"] []) (ver : ∀ (J : GJ) (ds : List D) (q : D → Prop), ds.length = 3 → S__law_seats J ds q → w__law_seats J (startE N__law_seats ds) { nx := fun _ => q .non, rt := fun d _ => q d }) : CalG g P w K mg base 3 "_law_seats" S__law_seats 3 :=
  cal_D Fu sc__law_seats hm hb (fun J cd A outer s H E hr => b__law_seats G c__law_next J hr) ver

/-! ### _law_ends: slots 0 votes, 1 told, 2 rule, 3 low, 4 high, 5 one, 6 number, 7 down, 8 up -/
abbrev st__law_ends : Stmt := topS 44
abbrev N__law_ends : List Str := ["votes", "told", "rule", "low", "high", "one", "number", "down", "up"]
theorem sc__law_ends : FnScope N__law_ends ["votes", "told", "rule"] (defScope st__law_ends) := ⟨rfl, rfl, rfl, by decide +kernel, rfl, by decide +kernel, by decide +kernel⟩
def w__law_ends (J : GJ) : WS := sSeq (sPar 3 4 (wVal (wTup (wCons (wOf (wC (.int 0))) (wCons (wOf (wC (.int 1))) wNil)))) (wVal (wC .non))) (sSeq (sFor (wZp (wCons (wOf (wVar 0)) (wCons (wOf (wVar 1)) wNil))) (gTup 2 (gCons (gN 5) (gCons (gN 6) gNil))) (sSeq (sSet 7 (wVal (wIf (wTB (w2 oEq (wB 2) (wOf (wC (.str "first"))))) (wCall J S__law_low 2 (wCons (wOf (wVar 5)) (wCons (wOf (w2 oAdd (wB 6) (wOf (wC (.int 1))))) wNil))) (wCall J S__law_low 2 (wCons (wOf (w2 oMulA (wOf (wC (.int 2))) (wB 5))) (wCons (wOf (w2 oAdd (wOf (w2 oMulA (wOf (wC (.int 2))) (wB 6))) (wOf (wC (.int 1))))) wNil)))))) (sSeq (sSet 3 (wVal (wIf (wTB (wCall J S__law_below 2 (wCons (wOf (wVar 3)) (wCons (wOf (wVar 7)) wNil)))) (wVar 7) (wVar 3)))) (sIf (wTB (w2 oGt (wB 6) (wOf (wC (.int 0))))) (sSeq (sSet 8 (wVal (wIf (wTB (w2 oEq (wB 2) (wOf (wC (.str "first"))))) (wCall J S__law_low 2 (wCons (wOf (wVar 5)) (wCons (wOf (wVar 6)) wNil))) (wCall J S__law_low 2 (wCons (wOf (w2 oMulA (wOf (wC (.int 2))) (wB 5))) (wCons (wOf (w2 oSub (wOf (w2 oMulA (wOf (wC (.int 2))) (wB 6))) (wOf (wC (.int 1))))) wNil)))))) (sSet 4 (wVal (wIf (wTOr (wTB (wIsN (wVar 4))) (wTB (wCall J S__law_below 2 (wCons (wOf (wVar 8)) (wCons (wOf (wVar 4)) wNil))))) (wVar 8) (wVar 4))))) sNil)))) (sRet (wIf (wTAnd (wTB (wIsNn (wVar 4))) (wTB (wCall J S__law_below 2 (wCons (wOf (wVar 4)) (wCons (wOf (wVar 3)) wNil))))) (wC .non) (wTup (wCons (wOf (wVar 3)) (wCons (wOf (wVar 4)) wNil))))))
theorem b__law_ends {g : Bool} {P : Program} {w : World} {K : PySem.W.Frag} {mg : Str → Option Value} {base : Heap} (G : Glo K mg) (c__law_low : CalG g P w K mg base 1 "_law_low" S__law_low 2) (c__law_below : CalG g P w K mg base 1 "_law_below" S__law_below 2) (J : GJ) {fa : Addr} {cd : Value} {A : Around} {outer : List Env} {s : Shared} {H : Hp} {E : XK} (hr : Rm g 1 (A.deeper (envOfC "_law_ends" (defScope st__law_ends) s.heap.objs.size fa cd))) :
    DSs (cxOf L2.CX0 P w K mg base N__law_ends "_law_ends" (defScope st__law_ends) fa cd A outer s H E).nox J (defBody st__law_ends) (w__law_ends J) := by
  have nd : N__law_ends.Nodup := sc__law_ends.nd
  have u64 := hr.rm.units
  have u65 : (A.deeper (envOfC "_law_ends" (defScope st__law_ends) s.heap.objs.size fa cd)).units + 65 < cLine := by have := hr.rm.un; omega
  have u1 : (A.deeper (envOfC "_law_ends" (defScope st__law_ends) s.heap.objs.size fa cd)).units + 1 < cLine := by have := hr.rm.un; omega
  exact (dss_cons (ds_parT rfl nd (by decide) (L2.pg_name nd rfl (by first | exact .inl rfl | exact .inr rfl)) (L2.pg_name nd rfl (by first | exact .inl rfl | exact .inr rfl)) (dv_of (de_tup (da_cons (db_of de_int) (da_cons (db_of de_int) da_nil)))) (dv_of de_non)) (dss_cons (ds_for PassesOwn.never rfl (di_zip (by rfl) G.b_zip (da_cons (db_of (de_var 0 (pv 0))) (da_cons (db_of (de_var 1 (pv 1))) da_nil))) (dg_tup rfl (dgs_cons (dg_name 5 (L2.pg_name nd rfl (by first | exact .inl rfl | exact .inr rfl))) (dgs_cons (dg_name 6 (L2.pg_name nd rfl (by first | exact .inl rfl | exact .inr rfl))) dgs_nil))) (dss_cons (ds_set nd rfl (by first | exact .inl rfl | exact .inr rfl) (dv_of (de_if (dt_cmp (od_eq u64) (db_var 2 (pv 2)) (db_of de_str) (by with_unfolding_all rfl)) (de_call c__law_low hr (by decide) (by rfl) (da_cons (db_of (de_var 5 (pv 5))) (da_cons (db_of (de_op od_add (db_var 6 (pv 6)) (db_of de_int))) da_nil))) (de_call c__law_low hr (by decide) (by rfl) (da_cons (db_of (de_op od_mulA (db_of de_int) (db_var 5 (pv 5)))) (da_cons (db_of (de_op od_add (db_of (de_op od_mulA (db_of de_int) (db_var 6 (pv 6)))) (db_of de_int))) da_nil)))))) (dss_cons (ds_set nd rfl (by first | exact .inl rfl | exact .inr rfl) (dv_of (de_if (dt_val (de_call c__law_below hr (by decide) (by rfl) (da_cons (db_of (de_var 3 (pv 3))) (da_cons (db_of (de_var 7 (pv 7))) da_nil)))) (de_var 7 (pv 7)) (de_var 3 (pv 3))))) (dss_one (ds_if (dt_cmp od_gt (db_var 6 (pv 6)) (db_of de_int) (by with_unfolding_all rfl)) (dss_cons (ds_set nd rfl (by first | exact .inl rfl | exact .inr rfl) (dv_of (de_if (dt_cmp (od_eq u64) (db_var 2 (pv 2)) (db_of de_str) (by with_unfolding_all rfl)) (de_call c__law_low hr (by decide) (by rfl) (da_cons (db_of (de_var 5 (pv 5))) (da_cons (db_of (de_var 6 (pv 6))) da_nil))) (de_call c__law_low hr (by decide) (by rfl) (da_cons (db_of (de_op od_mulA (db_of de_int) (db_var 5 (pv 5)))) (da_cons (db_of (de_op od_sub (db_of (de_op od_mulA (db_of de_int) (db_var 6 (pv 6)))) (db_of de_int))) da_nil)))))) (dss_one (ds_set nd rfl (by first | exact .inl rfl | exact .inr rfl) (dv_of (de_if (dt_of (dw_or (dt_isN (de_var 4 (pv 4))) (dw_or1 (dt_val (de_call c__law_below hr (by decide) (by rfl) (da_cons (db_of (de_var 8 (pv 8))) (da_cons (db_of (de_var 4 (pv 4))) da_nil))))))) (de_var 8 (pv 8)) (de_var 4 (pv 4))))))) dss_nil))))) (dss_one (ds_ret (de_if (dt_of (dw_and (dt_isNn (de_var 4 (pv 4))) (dw_and1 (dt_val (de_call c__law_below hr (by decide) (by rfl) (da_cons (db_of (de_var 4 (pv 4))) (da_cons (db_of (de_var 3 (pv 3))) da_nil))))))) de_non (de_tup (da_cons (db_of (de_var 3 (pv 3))) (da_cons (db_of (de_var 4 (pv 4))) da_nil))))))))
theorem c__law_ends {g : Bool} {P : Program} {w : World} {K : PySem.W.Frag} {mg : Str → Option Value} {base : Heap} (G : Glo K mg) (c__law_low : CalG g P w K mg base 1 "_law_low" S__law_low 2) (c__law_below : CalG g P w K mg base 1 "_law_below" S__law_below 2) {f : Addr} {fd : FuncData} (Fu : L2.Fun K "_law_ends" "_law_ends" st__law_ends f fd) (hm : mg "_law_ends" = some (.ref f)) (hb : Binds K fd ["votes", "told", "rule"] []) (ver : ∀ (J : GJ) (ds : List D) (q : D → Prop), ds.length = 3 → S__law_ends J ds q → w__law_ends J (startE N__law_ends ds) { nx := fun _ => q .non, rt := fun d _ => q d }) : CalG g P w K mg base 2 "_law_ends" S__law_ends 3 :=
  cal_D Fu sc__law_ends hm hb (fun J cd A outer s H E hr => b__law_ends G c__law_low c__law_below J hr) ver

/-! ### _law_are_seats_right: slots 0 hand, 1 votes, 2 many, 3 rule, 4 due, 5 later, 6 one, 7 other, 8 told, 9 at, 10 to, 11 moved, 12 spot, 13 drawn, 14 some -/
abbrev st__law_are_seats_right : Stmt := topS 45
abbrev N__law_are_seats_right : List Str := ["hand", "votes", "many", "rule", "due", "later", "one", "other", "told", "at", "to", "moved", "spot", "drawn", "some"]
theorem sc__law_are_seats_right : FnScope N__law_are_seats_right ["hand", "votes"] (defScope st__law_are_seats_right) := ⟨rfl, rfl, rfl, by decide +kernel, rfl, by decide +kernel, by decide +kernel⟩
def w__law_are_seats_right (J : GJ) : WS := sSeq (sSet 2 (wVal (wCall J S__law_any 2 (wCons (wOf (wVar 0)) (wCons (wOf (wLst (wCons (wOf (wC (.int 0))) (wCons (wOf (wC (.int 1))) (wCons (wOf (wC (.int 7))) (wCons (wOf (wC (.int 40))) (wCons (wOf (wC (.int 200))) (wCons (wOf (wCall J S__law_draw 2 (wCons (wOf (wVar 0)) (wCons (wOf (wC (.int 60))) wNil)))) wNil)))))))) wNil))))) (sSeq (sFor (wIs (wTup (wCons (wOf (wC (.str "first"))) (wCons (wOf (wC (.str "middle"))) (wCons (wOf (wC (.str "up"))) (wCons (wOf (wC (.str "rest"))) wNil)))))) (gN 3) (sSeq (sSet 4 (wVal (wCall J S__law_seats 3 (wCons (wOf (wVar 1)) (wCons (wOf (wVar 2)) (wCons (wOf (wVar 3)) wNil)))))) (sSeq (sIf (wTNot (wTB (wCall J S__law_like 2 (wCons (wOf (wCall J S_seats 3 (wCons (wOf (wVar 1)) (wCons (wOf (wVar 2)) (wCons (wOf (wVar 3)) wNil))))) (wCons (wOf (wVar 4)) wNil))))) (sRet (wC (.bl false))) sNil) (sSeq (sSet 5 (wVal (wCall J S__law_seats 3 (wCons (wOf (wVar 1)) (wCons (wOf (w2 oAdd (wB 2) (wOf (wC (.int 1))))) (wCons (wOf (wVar 3)) wNil)))))) (sIf (wTAnd (wTB (w2 oIn (wB 3) (wOf (wTup (wCons (wOf (wC (.str "first"))) (wCons (wOf (wC (.str "middle"))) wNil)))))) (wTB (wPr oAny (wCons (wOf (wLC [6, 7] (wZp (wCons (wOf (wVar 4)) (wCons (wOf (wVar 5)) wNil))) (gTup 2 (gCons (gN 6) (gCons (gN 7) gNil))) wYes (w2 oGt (wB 6) (wB 7)))) wNil)))) (sRet (wC (.bl false))) sNil))))) (sSeq (sFor (wIs (wTup (wCons (wOf (wC (.str "first"))) (wCons (wOf (wC (.str "middle"))) wNil)))) (gN 3) (sSeq (sSet 8 (wVal (wCall J S__law_seats 3 (wCons (wOf (wVar 1)) (wCons (wOf (wVar 2)) (wCons (wOf (wVar 3)) wNil)))))) (sSeq (sPar 9 10 (wVal (wCall J S__law_draw 2 (wCons (wOf (wVar 0)) (wCons (wOf (wPr oLen (wCons (wB 8) wNil))) wNil)))) (wVal (wCall J S__law_draw 2 (wCons (wOf (wVar 0)) (wCons (wOf (wPr oLen (wCons (wB 8) wNil))) wNil))))) (sSeq (sSet 11 (wVal (wPr oTuple (wCons (wOf (wLC [12, 6] (wEn (wCons (wOf (wVar 8)) wNil)) (gTup 2 (gCons (gN 12) (gCons (gN 6) gNil))) wYes (wPr oMax (wCons (wOf (wC (.int 0))) (wCons (wOf (w2 oSub (wOf (w2 oAdd (wB 6) (wOf (wPr oInt (wCons (wOf (w2 oEq (wB 12) (wB 10))) wNil))))) (wOf (wPr oInt (wCons (wOf (w2 oEq (wB 12) (wB 9))) wNil))))) wNil))))) wNil)))) (sSeq (sSet 13 (wVal (wPr oTuple (wCons (wOf (wLC [6] (wIs (wVar 8)) (gN 6) wYes (wCall J S__law_draw 2 (wCons (wOf (wVar 0)) (wCons (wOf (wCall J S__law_any 2 (wCons (wOf (wVar 0)) (wCons (wOf (wLst (wCons (wOf (wC (.int 2))) (wCons (wOf (wC (.int 9))) wNil)))) wNil)))) wNil))))) wNil)))) (sSeq (sFor (wIs (wTup (wCons (wOf (wVar 8)) (wCons (wOf (wVar 11)) (wCons (wOf (wVar 13)) (wCons (wOf (w2 oMulA (wOf (wTup (wCons (wOf (wC (.int 0))) wNil))) (wOf (wPr oLen (wCons (wB 8) wNil))))) wNil)))))) (gN 14) (sIf (wTNot (wTB (wCall J S__law_like 2 (wCons (wOf (wCall J S_divisors 3 (wCons (wOf (wVar 1)) (wCons (wOf (wVar 14)) (wCons (wOf (wVar 3)) wNil))))) (wCons (wOf (wCall J S__law_ends 3 (wCons (wOf (wVar 1)) (wCons (wOf (wVar 14)) (wCons (wOf (wVar 3)) wNil))))) wNil))))) (sRet (wC (.bl false))) sNil)) (sIf (wTB (wIsN (wCall J S__law_ends 3 (wCons (wOf (wVar 1)) (wCons (wOf (wVar 8)) (wCons (wOf (wVar 3)) wNil)))))) (sRet (wC (.bl false))) sNil))))))) (sRet (wC (.bl true)))))
theorem b__law_are_seats_right {P : Program} {w : World} {K : PySem.W.Frag} {mg : Str → Option Value} {base : Heap} (G : Glo K mg) (c__law_draw : CalG true P w K mg base 1 "_law_draw" S__law_draw 2) (c__law_any : CalG true P w K mg base 2 "_law_any" S__law_any 2) (c__law_seats : CalG true P w K mg base 3 "_law_seats" S__law_seats 3) (c_seats : CalG true P w K mg base 4 "seats" S_seats 3) (c__law_like : CalG true P w K mg base 1 "_law_like" S__law_like 2) (c_divisors : CalG true P w K mg base 4 "divisors" S_divisors 3) (c__law_ends : CalG true P w K mg base 2 "_law_ends" S__law_ends 3) (J : GJ) {fa : Addr} {cd : Value} {A : Around} {outer : List Env} {s : Shared} {H : Hp} {E : XK} (hr : Rm true 4 (A.deeper (envOfC "_law_are_seats_right" (defScope st__law_are_seats_right) s.heap.objs.size fa cd))) :
    DSs (cxOf L2.CX0 P w K mg base N__law_are_seats_right "_law_are_seats_right" (defScope st__law_are_seats_right) fa cd A outer s H E).nox J (defBody st__law_are_seats_right) (w__law_are_seats_right J) := by
  have nd : N__law_are_seats_right.Nodup := sc__law_are_seats_right.nd
  have gd := hr.gd rfl
  have u64 := hr.rm.units
  have u65 : (A.deeper (envOfC "_law_are_seats_right" (defScope st__law_are_seats_right) s.heap.objs.size fa cd)).units + 65 < cLine := by have := hr.rm.un; omega
  have u1 : (A.deeper (envOfC "_law_are_seats_right" (defScope st__law_are_seats_right) s.heap.objs.size fa cd)).units + 1 < cLine := by have := hr.rm.un; omega
  exact (dss_cons (ds_set nd rfl (by first | exact .inl rfl | exact .inr rfl) (dv_of (de_call c__law_any hr (by decide) (by rfl) (da_cons (db_of (de_var 0 (pv 0))) (da_cons (db_of (de_lst (da_cons (db_of de_int) (da_cons (db_of de_int) (da_cons (db_of de_int) (da_cons (db_of de_int) (da_cons (db_of de_int) (da_cons (db_of (de_call c__law_draw hr (by decide) (by rfl) (da_cons (db_of (de_var 0 (pv 0))) (da_cons (db_of de_int) da_nil)))) da_nil)))))))) da_nil))))) (dss_cons (ds_for PassesOwn.never rfl (di_seq (de_tup (da_cons (db_of de_str) (da_cons (db_of de_str) (da_cons (db_of de_str) (da_cons (db_of de_str) da_nil)))))) (dg_name 3 (L2.pg_name nd rfl (by first | exact .inl rfl | exact .inr rfl))) (dss_cons (ds_set nd rfl (by first | exact .inl rfl | exact .inr rfl) (dv_of (de_call c__law_seats hr (by decide) (by rfl) (da_cons (db_of (de_var 1 (pv 1))) (da_cons (db_of (de_var 2 (pv 2))) (da_cons (db_of (de_var 3 (pv 3))) da_nil)))))) (dss_cons (ds_if (dt_not (dt_val (de_call c__law_like hr (by decide) (by rfl) (da_cons (db_of (de_call c_seats hr (by decide) (by rfl) (da_cons (db_of (de_var 1 (pv 1))) (da_cons (db_of (de_var 2 (pv 2))) (da_cons (db_of (de_var 3 (pv 3))) da_nil))))) (da_cons (db_of (de_var 4 (pv 4))) da_nil))))) (dss_one (ds_ret de_bl)) dss_nil) (dss_cons (ds_set nd rfl (by first | exact .inl rfl | exact .inr rfl) (dv_of (de_call c__law_seats hr (by decide) (by rfl) (da_cons (db_of (de_var 1 (pv 1))) (da_cons (db_of (de_op od_add (db_var 2 (pv 2)) (db_of de_int))) (da_cons (db_of (de_var 3 (pv 3))) da_nil)))))) (dss_one (ds_if (dt_of (dw_and (dt_cmp (od_in u65) (db_var 3 (pv 3)) (db_of (de_tup (da_cons (db_of de_str) (da_cons (db_of de_str) da_nil)))) (by with_unfolding_all rfl)) (dw_and1 (dt_val (de_callB (cd_any rfl) (by rfl) G.b_any PyProof.Rows.boot_any (da_cons (db_of (de_lc rfl nd (di_zip (by rfl) G.b_zip (da_cons (db_of (de_var 4 (pv 4))) (da_cons (db_of (de_var 5 (pv 5))) da_nil))) (blkOk_by (own := [("one", 6), ("other", 7)]) (by kernel_rfl)) (fun _ _ _ _ _ => (dg_tup rfl (dgs_cons (dg_name 6 (L2.pg_name nd rfl (by first | exact .inl rfl | exact .inr rfl))) (dgs_cons (dg_name 7 (L2.pg_name nd rfl (by first | exact .inl rfl | exact .inr rfl))) dgs_nil)))) (fun _ _ _ _ _ => dts_nil) (fun _ _ _ _ _ => (de_cmp od_gt (db_var 6 (pv 6)) (db_var 7 (pv 7)) (by with_unfolding_all rfl))))) da_nil)))))) (dss_one (ds_ret de_bl)) dss_nil)))))) (dss_cons (ds_for PassesOwn.never rfl (di_seq (de_tup (da_cons (db_of de_str) (da_cons (db_of de_str) da_nil)))) (dg_name 3 (L2.pg_name nd rfl (by first | exact .inl rfl | exact .inr rfl))) (dss_cons (ds_set nd rfl (by first | exact .inl rfl | exact .inr rfl) (dv_of (de_call c__law_seats hr (by decide) (by rfl) (da_cons (db_of (de_var 1 (pv 1))) (da_cons (db_of (de_var 2 (pv 2))) (da_cons (db_of (de_var 3 (pv 3))) da_nil)))))) (dss_cons (ds_parT rfl nd (by decide) (L2.pg_name nd rfl (by first | exact .inl rfl | exact .inr rfl)) (L2.pg_name nd rfl (by first | exact .inl rfl | exact .inr rfl)) (dv_of (de_call c__law_draw hr (by decide) (by rfl) (da_cons (db_of (de_var 0 (pv 0))) (da_cons (db_of (de_callB cd_len (by rfl) G.b_len PySem.boot_len (da_cons (db_var 8 (pv 8)) da_nil))) da_nil)))) (dv_of (de_call c__law_draw hr (by decide) (by rfl) (da_cons (db_of (de_var 0 (pv 0))) (da_cons (db_of (de_callB cd_len (by rfl) G.b_len PySem.boot_len (da_cons (db_var 8 (pv 8)) da_nil))) da_nil))))) (dss_cons (ds_set nd rfl (by first | exact .inl rfl | exact .inr rfl) (dv_of (de_callTy cd_tuple (by rfl) G.b_tuple PyProof.Rows.boot_tuple (da_cons (db_of (de_lc rfl nd (di_enum (by rfl) G.b_enumerate (da_cons (db_of (de_var 8 (pv 8))) da_nil)) (blkOk_by (own := [("spot", 12), ("one", 6)]) (by kernel_rfl)) (fun _ _ _ _ _ => (dg_tup rfl (dgs_cons (dg_name 12 (L2.pg_name nd rfl (by first | exact .inl rfl | exact .inr rfl))) (dgs_cons (dg_name 6 (L2.pg_name nd rfl (by first | exact .inl rfl | exact .inr rfl))) dgs_nil)))) (fun _ _ _ _ _ => dts_nil) (fun _ _ _ _ _ => (de_callB (cd_max rfl) (by rfl) G.b_max PyProof.Rows.boot_max (da_cons (db_of de_int) (da_cons (db_of (de_op od_sub (db_of (de_op od_add (db_var 6 (pv 6)) (db_of (de_callTy cd_int (by rfl) G.b_int PyProof.Rows.boot_int (da_cons (db_of (de_cmp (od_eq u64) (db_var 12 (pv 12)) (db_var 10 (pv 10)) (by with_unfolding_all rfl))) da_nil))))) (db_of (de_callTy cd_int (by rfl) G.b_int PyProof.Rows.boot_int (da_cons (db_of (de_cmp (od_eq u64) (db_var 12 (pv 12)) (db_var 9 (pv 9)) (by with_unfolding_all rfl))) da_nil))))) da_nil)))))) da_nil)))) (dss_cons (ds_set nd rfl (by first | exact .inl rfl | exact .inr rfl) (dv_of (de_callTy cd_tuple (by rfl) G.b_tuple PyProof.Rows.boot_tuple (da_cons (db_of (de_lc rfl nd (di_seq (de_var 8 (pv 8))) (blkOk_by (own := [("one", 6)]) (by kernel_rfl)) (fun _ _ _ _ _ => (dg_name 6 (L2.pg_name nd rfl (by first | exact .inl rfl | exact .inr rfl)))) (fun _ _ _ _ _ => dts_nil) (fun _ _ _ _ _ => (de_call c__law_draw hr (by decide) (by rfl) (da_cons (db_of (de_var 0 (pv 0))) (da_cons (db_of (de_call c__law_any hr (by decide) (by rfl) (da_cons (db_of (de_var 0 (pv 0))) (da_cons (db_of (de_lst (da_cons (db_of de_int) (da_cons (db_of de_int) da_nil)))) da_nil)))) da_nil)))))) da_nil)))) (dss_cons (ds_for PassesOwn.never rfl (di_seq (de_tup (da_cons (db_of (de_var 8 (pv 8))) (da_cons (db_of (de_var 11 (pv 11))) (da_cons (db_of (de_var 13 (pv 13))) (da_cons (db_of (de_op od_mulA (db_of (de_tup (da_cons (db_of de_int) da_nil))) (db_of (de_callB cd_len (by rfl) G.b_len PySem.boot_len (da_cons (db_var 8 (pv 8)) da_nil))))) da_nil)))))) (dg_name 14 (L2.pg_name nd rfl (by first | exact .inl rfl | exact .inr rfl))) (dss_one (ds_if (dt_not (dt_val (de_call c__law_like hr (by decide) (by rfl) (da_cons (db_of (de_call c_divisors hr (by decide) (by rfl) (da_cons (db_of (de_var 1 (pv 1))) (da_cons (db_of (de_var 14 (pv 14))) (da_cons (db_of (de_var 3 (pv 3))) da_nil))))) (da_cons (db_of (de_call c__law_ends hr (by decide) (by rfl) (da_cons (db_of (de_var 1 (pv 1))) (da_cons (db_of (de_var 14 (pv 14))) (da_cons (db_of (de_var 3 (pv 3))) da_nil))))) da_nil))))) (dss_one (ds_ret de_bl)) dss_nil))) (dss_one (ds_if (dt_isN (de_call c__law_ends hr (by decide) (by rfl) (da_cons (db_of (de_var 1 (pv 1))) (da_cons (db_of (de_var 8 (pv 8))) (da_cons (db_of (de_var 3 (pv 3))) da_nil))))) (dss_one (ds_ret de_bl)) dss_nil)))))))) (dss_one (ds_ret de_bl)))))
theorem c__law_are_seats_right {P : Program} {w : World} {K : PySem.W.Frag} {mg : Str → Option Value} {base : Heap} (G : Glo K mg) (c__law_draw : CalG true P w K mg base 1 "_law_draw" S__law_draw 2) (c__law_any : CalG true P w K mg base 2 "_law_any" S__law_any 2) (c__law_seats : CalG true P w K mg base 3 "_law_seats" S__law_seats 3) (c_seats : CalG true P w K mg base 4 "seats" S_seats 3) (c__law_like : CalG true P w K mg base 1 "_law_like" S__law_like 2) (c_divisors : CalG true P w K mg base 4 "divisors" S_divisors 3) (c__law_ends : CalG true P w K mg base 2 "_law_ends" S__law_ends 3) {f : Addr} {fd : FuncData} (Fu : L2.Fun K "_law_are_seats_right" "_law_are_seats_right" st__law_are_seats_right f fd) (hm : mg "_law_are_seats_right" = some (.ref f)) (hb : Binds K fd ["hand", "votes"] []) (ver : ∀ (J : GJ) (ds : List D) (q : D → Prop), ds.length = 2 → S__law_are_seats_right J ds q → w__law_are_seats_right J (startE N__law_are_seats_right ds) { nx := fun _ => q .non, rt := fun d _ => q d }) : CalG true P w K mg base 5 "_law_are_seats_right" S__law_are_seats_right 2 :=
  cal_D Fu sc__law_are_seats_right hm hb (fun J cd A outer s H E hr => b__law_are_seats_right G c__law_draw c__law_any c__law_seats c_seats c__law_like c_divisors c__law_ends J hr) ver

/-! ### _law_lost: slots 0 votes, 1 most, 2 many, 3 one, 4 other, 5 mine, 6 its -/
abbrev st__law_lost : Stmt := topS 46
abbrev N__law_lost : List Str := ["votes", "most", "many", "one", "other", "mine", "its"]
theorem sc__law_lost : FnScope N__law_lost ["votes", "most"] (defScope st__law_lost) := ⟨rfl, rfl, rfl, by decide +kernel, rfl, by decide +kernel, by decide +kernel⟩
def w__law_lost (J : GJ) : WS := sSeq (sFor (wR1 (wCons (wOf (wVar 1)) wNil)) (gN 2) (sSeq (sPar 3 4 (wVal (wCall J S__law_seats 3 (wCons (wOf (wVar 0)) (wCons (wOf (wVar 2)) (wCons (wOf (wC (.str "rest"))) wNil))))) (wVal (wCall J S__law_seats 3 (wCons (wOf (wVar 0)) (wCons (wOf (w2 oAdd (wB 2) (wOf (wC (.int 1))))) (wCons (wOf (wC (.str "rest"))) wNil)))))) (sIf (wTB (wPr oAny (wCons (wOf (wLC [5, 6] (wZp (wCons (wOf (wVar 3)) (wCons (wOf (wVar 4)) wNil))) (gTup 2 (gCons (gN 5) (gCons (gN 6) gNil))) wYes (w2 oGt (wB 5) (wB 6)))) wNil))) (sRet (wVar 2)) sNil))) (sRet (wC .non))
theorem b__law_lost {g : Bool} {P : Program} {w : World} {K : PySem.W.Frag} {mg : Str → Option Value} {base : Heap} (G : Glo K mg) (c__law_seats : CalG g P w K mg base 3 "_law_seats" S__law_seats 3) (J : GJ) {fa : Addr} {cd : Value} {A : Around} {outer : List Env} {s : Shared} {H : Hp} {E : XK} (hr : Rm g 3 (A.deeper (envOfC "_law_lost" (defScope st__law_lost) s.heap.objs.size fa cd))) :
    DSs (cxOf L2.CX0 P w K mg base N__law_lost "_law_lost" (defScope st__law_lost) fa cd A outer s H E).nox J (defBody st__law_lost) (w__law_lost J) := by
  have nd : N__law_lost.Nodup := sc__law_lost.nd
  have u64 := hr.rm.units
  have u65 : (A.deeper (envOfC "_law_lost" (defScope st__law_lost) s.heap.objs.size fa cd)).units + 65 < cLine := by have := hr.rm.un; omega
  have u1 : (A.deeper (envOfC "_law_lost" (defScope st__law_lost) s.heap.objs.size fa cd)).units + 1 < cLine := by have := hr.rm.un; omega
  exact (dss_cons (ds_for PassesOwn.never rfl (di_r1 (by rfl) G.b_range (da_cons (db_of (de_var 1 (pv 1))) da_nil)) (dg_name 2 (L2.pg_name nd rfl (by first | exact .inl rfl | exact .inr rfl))) (dss_cons (ds_par rfl nd rfl rfl (by decide) rfl rfl (dv_of (de_call c__law_seats hr (by decide) (by rfl) (da_cons (db_of (de_var 0 (pv 0))) (da_cons (db_of (de_var 2 (pv 2))) (da_cons (db_of de_str) da_nil))))) (dv_of (de_call c__law_seats hr (by decide) (by rfl) (da_cons (db_of (de_var 0 (pv 0))) (da_cons (db_of (de_op od_add (db_var 2 (pv 2)) (db_of de_int))) (da_cons (db_of de_str) da_nil))))) rfl) (dss_one (ds_if (dt_val (de_callB (cd_any rfl) (by rfl) G.b_any PyProof.Rows.boot_any (da_cons (db_of (de_lc rfl nd (di_zip (by rfl) G.b_zip (da_cons (db_of (de_var 3 (pv 3))) (da_cons (db_of (de_var 4 (pv 4))) da_nil))) (blkOk_by (own := [("mine", 5), ("its", 6)]) (by kernel_rfl)) (fun _ _ _ _ _ => (dg_tup rfl (dgs_cons (dg_name 5 (L2.pg_name nd rfl (by first | exact .inl rfl | exact .inr rfl))) (dgs_cons (dg_name 6 (L2.pg_name nd rfl (by first | exact .inl rfl | exact .inr rfl))) dgs_nil)))) (fun _ _ _ _ _ => dts_nil) (fun _ _ _ _ _ => (de_cmp od_gt (db_var 5 (pv 5)) (db_var 6 (pv 6)) (by with_unfolding_all rfl))))) da_nil))) (dss_one (ds_ret (de_var 2 (pv 2)))) dss_nil)))) (dss_one (ds_ret de_non)))
theorem c__law_lost {g : Bool} {P : Program} {w : World} {K : PySem.W.Frag} {mg : Str → Option Value} {base : Heap} (G : Glo K mg) (c__law_seats : CalG g P w K mg base 3 "_law_seats" S__law_seats 3) {f : Addr} {fd : FuncData} (Fu : L2.Fun K "_law_lost" "_law_lost" st__law_lost f fd) (hm : mg "_law_lost" = some (.ref f)) (hb : Binds K fd ["votes", "most"] []) (ver : ∀ (J : GJ) (ds : List D) (q : D → Prop), ds.length = 2 → S__law_lost J ds q → w__law_lost J (startE N__law_lost ds) { nx := fun _ => q .non, rt := fun d _ => q d }) : CalG g P w K mg base 4 "_law_lost" S__law_lost 2 :=
  cal_D Fu sc__law_lost hm hb (fun J cd A outer s H E hr => b__law_lost G c__law_seats J hr) ver

end DL

/-! V0: lemmas for plain proofs: comprehensions and loops over an environment that stays. -/
namespace DL
open PySem PySem.Spec PyProof.Rows L2

theorem wipe_set {e : En} {i : Nat} (h : e[i]? = some .no) (s : Sl) : wipeE (e.set i s) [i] = e := by
  simp only [wipeE, List.set_set]
  obtain ⟨hl, h⟩ := List.getElem?_eq_some_iff.mp h
  rw [← h, List.set_getElem_self]
/-- one name; the block leaves its surroundings alone -/
theorem lc_map {α : Type} {i : Nat} {tt : WT} {te : WE} {fin : List D → En → Prop} {e : En} (f y : α → D) (p : α → Bool) (he : e[i]? = some .no) :
    ∀ (xs : List α) (acc : List D), (∀ x ∈ xs, ∀ k : Bool → En → Prop, k (p x) (e.set i (.val (f x))) → tt (e.set i (.val (f x))) k) →
    (∀ x ∈ xs, p x = true → ∀ k : D → En → Prop, k (y x) (e.set i (.val (f x))) → te (e.set i (.val (f x))) k) → acc.length + xs.length ≤ sizeLine → fin (acc ++ (xs.filter p).map y) e → lcGo [i] (gN i) tt te fin (xs.map f) acc e
  | [], acc, _, _, _, hf => by simpa [lcGo] using hf
  | x :: xs, acc, ht, hy, hl, hf => by
    simp only [List.length_cons] at hl
    simp only [List.map_cons, lcGo, gN]
    refine ht x List.mem_cons_self _ ?_
    cases hp : p x with
    | true =>
      rw [if_pos rfl]
      refine hy x List.mem_cons_self hp _ ⟨by omega, ?_⟩
      rw [wipe_set he]
      refine lc_map f y p he xs _ (fun z hz => ht z (List.mem_cons_of_mem _ hz)) (fun z hz => hy z (List.mem_cons_of_mem _ hz)) (by simp; omega) ?_
      simpa [List.filter_cons, hp] using hf
    | false =>
      rw [if_neg (by simp)]
      rw [wipe_set he]
      refine lc_map f y p he xs _ (fun z hz => ht z (List.mem_cons_of_mem _ hz)) (fun z hz => hy z (List.mem_cons_of_mem _ hz)) (by omega) ?_
      simpa [List.filter_cons, hp] using hf
/-- the same without a condition -/
theorem lc_map1 {α : Type} {i : Nat} {te : WE} {fin : List D → En → Prop} {e : En} (f y : α → D) (he : e[i]? = some .no) (xs : List α) 
    (hy : ∀ x ∈ xs, ∀ k : D → En → Prop, k (y x) (e.set i (.val (f x))) → te (e.set i (.val (f x))) k) (hl : xs.length ≤ sizeLine) (hf : fin (xs.map y) e) : lcGo [i] (gN i) wYes te fin (xs.map f) [] e :=
  lc_map f y (fun _ => true) he xs [] (fun x _ k h => h) (fun x hx _ => hy x hx) (by simpa using hl) (by rw [List.filter_eq_self.mpr (by simp)]; simpa using hf)
theorem rgD_nat (n : Nat) : rgD 0 1 n = (List.range n).map fun i => D.int (i : Nat) := by
  unfold rgD
  exact List.map_congr_left fun i _ => by simp
theorem natD_length (l : List Nat) : (natD l).length = l.length := by simp [natD]
theorem small_sz {n : Nat} (h : n ≤ 16777216) : n ≤ sizeLine := by rw [sizeLine_eq]; exact h
theorem okEA_natD (k : Nat) (l : List Nat) : okEA k (natD l) = true := by
  induction l with
  | nil => rfl
  | cons x xs ih => simpa [natD, okEA, okE] using ih
theorem inD_natD (x : Nat) (l : List Nat) : inD (.int (x : Nat)) (natD l) = l.contains x := by
  induction l with
  | nil => rfl
  | cons y ys ih =>
    have e : inD (.int (x : Nat)) (natD (y :: ys)) = (eqD (.int (y : Nat)) (.int (x : Nat)) || inD (.int (x : Nat)) (natD ys)) := rfl
    rw [e, ih, List.contains_cons]
    congr 1
    simp only [eqD]
    rw [Bool.eq_iff_iff, beq_iff_eq, beq_iff_eq]
    omega
theorem atI_map {α : Type} {f : α → D} {xs : List α} {i : Nat} {x : α} (h : xs[i]? = some x) : atI (xs.map f) (i : Nat) = some (f x) := atI_nat (by simp [h])
theorem atI_range {f : Nat → D} {n i : Nat} (h : i < n) : atI ((List.range n).map f) (i : Nat) = some (f i) := atI_map (by rw [List.getElem?_range h])
/-! two clauses -/
theorem lc2_in {β : Type} {vs : List Nat} {j : Nat} {tt1 : WT} {te : WE} {nx : List D → En → Prop} {e : En} (h y : β → D) (p : β → Bool) (he : e[j]? = some .no) :
    ∀ (xs : List β) (acc : List D), (∀ x ∈ xs, ∀ k : Bool → En → Prop, k (p x) (e.set j (.val (h x))) → tt1 (e.set j (.val (h x))) k) →
    (∀ x ∈ xs, p x = true → ∀ k : D → En → Prop, k (y x) (e.set j (.val (h x))) → te (e.set j (.val (h x))) k) → acc.length + xs.length ≤ sizeLine → nx (acc ++ (xs.filter p).map y) e → lc2In vs [j] (gN j) tt1 te nx (xs.map h) acc e
  | [], acc, _, _, _, hf => by simpa [lc2In] using hf
  | x :: xs, acc, ht, hy, hl, hf => by
    simp only [List.length_cons] at hl
    simp only [List.map_cons, lc2In, gN]
    refine ht x List.mem_cons_self _ ?_
    cases hp : p x with
    | true =>
      rw [if_pos rfl]
      refine hy x List.mem_cons_self hp _ ⟨by omega, ?_⟩
      rw [wipe_set he]
      refine lc2_in h y p he xs _ (fun z hz => ht z (List.mem_cons_of_mem _ hz)) (fun z hz => hy z (List.mem_cons_of_mem _ hz)) (by simp; omega) ?_
      simpa [List.filter_cons, hp] using hf
    | false =>
      rw [if_neg (by simp)]
      rw [wipe_set he]
      refine lc2_in h y p he xs _ (fun z hz => ht z (List.mem_cons_of_mem _ hz)) (fun z hz => hy z (List.mem_cons_of_mem _ hz)) (by omega) ?_
      simpa [List.filter_cons, hp] using hf
theorem wipe_no {e : En} {j : Nat} (h : e[j]? = some .no) : wipeE e [j] = e := by
  simp only [wipeE]
  obtain ⟨hl, h⟩ := List.getElem?_eq_some_iff.mp h
  rw [← h, List.set_getElem_self]
theorem lc2_map {α β : Type} {i j : Nat} {wi1 : WI} {tt1 : WT} {te : WE} {fin : List D → En → Prop} {e : En} (hij : i ≠ j) (f : α → D) (ys : α → List β) (h : α → β → D) (p : α → β → Bool) (y : α → β → D) (hi : e[i]? = some .no) (hj : e[j]? = some .no) :
    ∀ (xs : List α) (acc : List D), (∀ x ∈ xs, ∀ k : List D → En → Prop, k ((ys x).map (h x)) (e.set i (.val (f x))) → wi1 (e.set i (.val (f x))) k) →
    (∀ x ∈ xs, ∀ b ∈ ys x, ∀ k : Bool → En → Prop, k (p x b) ((e.set i (.val (f x))).set j (.val (h x b))) → tt1 ((e.set i (.val (f x))).set j (.val (h x b))) k) →
    (∀ x ∈ xs, ∀ b ∈ ys x, p x b = true → ∀ k : D → En → Prop, k (y x b) ((e.set i (.val (f x))).set j (.val (h x b))) → te ((e.set i (.val (f x))).set j (.val (h x b))) k) →
    acc.length + (xs.map fun x => (ys x).length).sum ≤ sizeLine → fin (acc ++ xs.flatMap fun x => ((ys x).filter (p x)).map (y x)) e → lc2Go [i, j] [j] (gN i) wYes wi1 (gN j) tt1 te fin (xs.map f) acc e
  | [], acc, _, _, _, _, hf => by simpa [lc2Go] using hf
  | x :: xs, acc, hw, ht, hy, hl, hf => by
    simp only [List.map_cons, List.sum_cons] at hl
    have hj' : (e.set i (.val (f x)))[j]? = some .no := by rw [List.getElem?_set_ne hij, hj]
    simp only [List.map_cons, lc2Go, gN, wYes, if_true]
    refine hw x List.mem_cons_self _ ?_
    rw [wipe_no hj']
    have hfl : (((ys x).filter (p x)).map (y x)).length ≤ (ys x).length := by
      rw [List.length_map]
      exact List.length_filter_le _ _
    refine lc2_in (h x) (y x) (p x) hj' (ys x) acc (ht x List.mem_cons_self) (hy x List.mem_cons_self) (by omega) ?_
    have e2 : wipeE (e.set i (.val (f x))) [i, j] = e := by
      show (wipeE (e.set i (.val (f x))) [j]).set i .no = e
      rw [wipe_no hj', List.set_set]
      exact wipe_no hi
    rw [e2]
    refine lc2_map hij f ys h p y hi hj xs _ (fun z hz => hw z (List.mem_cons_of_mem _ hz)) (fun z hz => ht z (List.mem_cons_of_mem _ hz)) (fun z hz => hy z (List.mem_cons_of_mem _ hz)) (by rw [List.length_append]; omega) ?_
    simpa using hf
theorem seq_step {w u : WS} {env : En} (env' : En) {E : DEnds} (h : ∀ E' : DEnds, E'.rt = E.rt → E'.bk = E.bk → E'.ct = E.ct → E'.nx env' → w env E') (h' : u env' E) : sSeq w u env E := h { E with nx := fun e => u e E } rfl rfl rfl h'
theorem seq_stepP {w u : WS} {env : En} (P : En → Prop) {E : DEnds} (h : ∀ E' : DEnds, E'.rt = E.rt → E'.bk = E.bk → E'.ct = E.ct → (∀ e, P e → E'.nx e) → w env E') (h' : ∀ e, P e → u e E) : sSeq w u env E := h { E with nx := fun e => u e E } rfl rfl rfl h'
theorem filter_yes {α : Type} (l : List α) : l.filter (fun _ => true) = l := List.filter_eq_self.mpr (by simp)
theorem small_int {n : Nat} (h : n ≤ 100000) : -(2 ^ 62) ≤ (n : Int) ∧ (n : Int) < 2 ^ 62 := by omega
/-! loops -/
theorem for_ind {α : Type} {g : WG} {body : WS} {E : DEnds} (f : α → D) (P : List α → En → Prop) (hn : ∀ e, P [] e → E.nx e)
    (hc : ∀ x xs e, P (x :: xs) e → ∀ R : En → Prop, (∀ e', P xs e' → R e') → g (f x) e fun e2 => body e2 { E with nx := R, ct := R, bk := E.nx }) : ∀ (xs : List α) (e : En), P xs e → forGo g body E (xs.map f) e
  | [], e, h => hn e h
  | x :: xs, e, h => hc x xs e h _ fun e' h' => for_ind f P hn hc xs e' h'
end DL

/-! V1: plain proofs, the short defs. -/
namespace DL
open PySem PySem.Spec PyProof.Rows L2
abbrev EndQ (q : D → Prop) : DEnds := { nx := fun _ => q .non, rt := fun d _ => q d }
theorem v_is_integer (J : GJ) (ds : List D) (q : D → Prop) (_ : ds.length = 1) (h : S_is_integer J ds q) : w_is_integer J (startE N_is_integer ds) (EndQ q) := by
  obtain ⟨i, rfl, hq⟩ := h
  simpa [w_is_integer, isiT] using hq
theorem v_is_within (J : GJ) (ds : List D) (q : D → Prop) (_ : ds.length = 3) (h : S_is_within J ds q) : w_is_within J (startE N_is_within ds) (EndQ q) := by
  obtain ⟨i, lo, hi, rfl, hq⟩ := h
  simp [w_is_within, S_is_integer]
  by_cases h1 : lo ≤ i
  · right
    simpa [h1] using hq
  · left
    exact ⟨by omega, by simpa [h1] using hq⟩
theorem v_is_tuple (J : GJ) (ds : List D) (q : D → Prop) (_ : ds.length = 2) (h : S_is_tuple J ds q) : w_is_tuple J (startE N_is_tuple ds) (EndQ q) := by
  obtain ⟨xs, n, rfl, hq⟩ := h
  have e : ((xs.length : Int) == n) = decide ((xs.length : Int) = n) := by
    rw [Bool.eq_iff_iff, beq_iff_eq, decide_eq_true_eq]
  simpa [w_is_tuple, isiT, e] using hq
theorem v_is_sized (J : GJ) (ds : List D) (q : D → Prop) (_ : ds.length = 3) (h : S_is_sized J ds q) : w_is_sized J (startE N_is_sized ds) (EndQ q) := by
  obtain ⟨xs, lo, hi, rfl, hq⟩ := h
  simp [w_is_sized, isiT]
  by_cases h1 : lo ≤ (xs.length : Int)
  · right
    simpa [h1] using hq
  · left
    exact ⟨by omega, by simpa [h1] using hq⟩
theorem v__law_like (J : GJ) (ds : List D) (q : D → Prop) (_ : ds.length = 2) (h : S__law_like J ds q) : w__law_like J (startE N__law_like ds) (EndQ q) := by
  obtain ⟨d, rfl, h1, h2, h3, hq⟩ := h
  simpa [w__law_like, h1, h2, h3] using hq
theorem v__law_any (J : GJ) (ds : List D) (q : D → Prop) (_ : ds.length = 2) (h : S__law_any J ds q) : w__law_any J (startE N__law_any ds) (EndQ q) := by
  obtain ⟨a, xs, rfl, hJ, hne, hl, hq⟩ := h
  have hp : 0 < xs.length := List.length_pos_iff.mpr hne
  simp [w__law_any]
  refine ⟨a, xs.length, rfl, hJ, by omega, by omega, fun r h0 h1 => ?_⟩
  have hr : r.toNat < xs.length := by omega
  refine ⟨xs[r.toNat], ?_, hq _ (List.getElem_mem hr)⟩
  have e := atI_nat (xs := xs) (List.getElem?_eq_getElem hr)
  rwa [Int.toNat_of_nonneg h0] at e
end DL

/-! V8: the drawn numbers. -/
namespace DL
open PySem PySem.Spec PyProof.Rows L2
abbrev hndE (a : Addr) (ns : List Int) (i d s k m : Int) (x y z : Sl) : En := [.lat a (HandD ns i d s k), .val (.int m), x, y, z]
theorem hx0 (ns : List Int) (i d s k : Int) : atI (HandD ns i d s k) 0 = some (.lst (ns.map D.int)) := atI_nat (j := 0) rfl
theorem hx1 (ns : List Int) (i d s k : Int) : atI (HandD ns i d s k) 1 = some (.int i) := atI_nat (j := 1) rfl
theorem hx2 (ns : List Int) (i d s k : Int) : atI (HandD ns i d s k) 2 = some (.int d) := atI_nat (j := 2) rfl
theorem hx3 (ns : List Int) (i d s k : Int) : atI (HandD ns i d s k) 3 = some (.int s) := atI_nat (j := 3) rfl
theorem hx4 (ns : List Int) (i d s k : Int) : atI (HandD ns i d s k) 4 = some (.int k) := atI_nat (j := 4) rfl
theorem hs1 (ns : List Int) (i d s k : Int) : ixN (HandD ns i d s k).length 1 = some 1 := rfl
theorem hs2 (ns : List Int) (i d s k : Int) : ixN (HandD ns i d s k).length 2 = some 2 := rfl
theorem hs3 (ns : List Int) (i d s k : Int) : ixN (HandD ns i d s k).length 3 = some 3 := rfl
theorem hs4 (ns : List Int) (i d s k : Int) : ixN (HandD ns i d s k).length 4 = some 4 := rfl
theorem v__law_draw (J : GJ) (a : Addr) (ns : List Int) (i d s k m : Int) (ok : HandOk ns i d s k) (h0 : 0 < m) (h1 : m ≤ 10000000000000) (E : DEnds)
    (hE' : ∀ (r : Int) (e : En) (ns : List Int) (i d s k : Int), 0 ≤ r → r < m → HandOk ns i d s k → e[0]? = some (.lat a (HandD ns i d s k)) → E.rt (.int r) e) :
    w__law_draw J (hndE a ns i d s k m .no .no .no) E := by
  refine seq_stepP (fun e => ∃ i d s x, HandOk ns i d s k ∧ e = hndE a ns i d s k m x .no .no) (fun E _ _ _ hE => ?_) fun e he => ?_
  · simp [hx0, hx1, hx2]
    have same : E.nx (hndE a ns i d s k m .no .no .no) := hE _ ⟨i, d, s, .no, ok, rfl⟩
    by_cases hd : d = 0
    · refine .inr ⟨hd, ?_⟩
      by_cases hi : i < (ns.length : Int)
      · have i0 := ok.i0
        have hi' : i.toNat < ns.length := by omega
        have hg : atI (ns.map D.int) i = some (.int ns[i.toNat]) := by
          have e := atI_nat (xs := ns.map D.int) (j := i.toNat) (v := .int ns[i.toNat]) (by simp [hi'])
          rwa [Int.toNat_of_nonneg i0] at e
        have hc := ok.cell _ (List.getElem_mem hi')
        have ok' : ∀ d' s', 0 ≤ d' → HandOk ns (i + 1) d' s' k := fun d' s' h => ⟨ok.len, ok.cell, by omega, h⟩
        refine .inr ⟨hi, _, hg, a, _, ⟨rfl, rfl⟩, 1, rfl, .int s, atI_nat (j := 3) rfl, ?_⟩
        refine ⟨.inr ⟨by decide, by decide⟩, .inr ⟨by decide, by decide⟩, by decide, a, _, ⟨rfl, rfl⟩, 3, rfl, ⟨by decide, by decide, by decide⟩, ?_⟩
        by_cases hb : 1000000000000000000 ≤ ns[i.toNat]
        · exact .inr ⟨by simp [hb], a, _, ⟨rfl, rfl⟩, 2, rfl, hE _ ⟨i + 1, ns[i.toNat], _, .val (.int ns[i.toNat]), ok' _ _ hc, rfl⟩⟩
        · exact .inl ⟨by simp [hb], hE _ ⟨i + 1, d, _, .val (.int ns[i.toNat]), ok' _ _ ok.d0, rfl⟩⟩
      · exact .inl ⟨by omega, same⟩
    · exact .inl ⟨hd, same⟩
  obtain ⟨i, d, s, x, ok, rfl⟩ := he
  refine seq_stepP (fun e => ∃ y, e = hndE a ns i d s k m x y .no) (fun E2 hrt _ _ hE => ?_) fun e he => ?_
  · simp [hx0, hx1, hx2]
    by_cases hd : d ≤ 0
    · exact .inl ⟨hd, hE _ ⟨.no, rfl⟩⟩
    · refine .inr ⟨by omega, h0, ⟨h0, by omega⟩, a, _, ⟨rfl, rfl⟩, 2, rfl, ?_⟩
      rw [hrt]
      exact hE' _ _ ns i (d / m) s k (Int.emod_nonneg _ (by omega)) (Int.emod_lt_of_pos _ h0) ⟨ok.len, ok.cell, ok.i0, Int.ediv_nonneg ok.d0 (by omega)⟩ rfl
  obtain ⟨y, rfl⟩ := he
  simp [hx3, hx4, hs4]
  refine ⟨a, _, ⟨rfl, rfl⟩, 4, rfl, .int s, atI_nat (j := 3) rfl, .int (k + 1), atI_nat (j := 4) rfl, ?_⟩
  have big : ∀ z : Int, CMul (z % 2147483647) (z % 2147483647 / 1009 + 69621) := fun z => .inl (by omega)
  have big2 : ∀ z : Int, CMul (z % 2147483647) (z % 2147483647 / 2003 + 40692) := fun z => .inl (by omega)
  refine ⟨.inl ⟨by decide, by decide⟩, .inr ⟨by decide, by decide⟩, by decide, ⟨by decide, by decide⟩, big _, by decide, ⟨by decide, by decide⟩, big2 _, by decide, ⟨by decide, by decide⟩, h0, ?_⟩
  exact hE' _ _ ns i d s (k + 1) (Int.emod_nonneg _ (by omega)) (Int.emod_lt_of_pos _ h0) ⟨ok.len, ok.cell, ok.i0, ok.d0⟩ rfl
end DL

/-! V9: a def that draws from the hand keeps its promise. -/
namespace DL
open PySem PySem.Spec PyProof.Rows L2
/-- what is left of J while the hand is in hand -/
def restJ (T : Addr → Prop) (I : Hp → Prop) (h1 : ∀ H H', (∀ b, T b → H' b = H b) → (∀ b φ, H b = some (.ext φ) → H' b = some (.ext φ)) → I H → I H') (h2 : ∀ H b, I H → T b → H b ≠ none) : GJ :=
  ⟨T, fun _ H => I H, fun _ H b i t => h2 H b i t, fun _ H _ H' i _ e x => h1 H H' e x i⟩
theorem c__law_draw {g : Bool} {P : Program} {w : World} {K : PySem.W.Frag} {mg : Str → Option Value} {base : Heap} (G : Glo K mg) {f : Addr} {fd : FuncData} (Fu : L2.Fun K "_law_draw" "_law_draw" st__law_draw f fd) (hm : mg "_law_draw" = some (.ref f)) (hb : Binds K fd ["hand", "many"] []) :
    CalG g P w K mg base 1 "_law_draw" S__law_draw 2 := by
  refine ⟨f, fd, ["hand", "many"], fnG_of Fu sc__law_draw (fun vs H Q E h => h.1) fun cd A outer s H vs Q E hr ⟨hl, J, pr, F, ds, q, st8, ia, hS, k⟩ => ?_, hm, Fu.kp, hb⟩
  obtain ⟨a, m, rfl, ⟨T, I, hmt, hTa, hinv, hst, hat⟩, h0, h1, hq⟩ := hS
  obtain ⟨⟨c, ns, i, d, s', n, hc, ha, ok⟩, hI⟩ := (hinv F H).mp st8.inv
  obtain ⟨v0, v1, rfl, iv0, iv1⟩ := ia.two_inv
  cases iv0.tk_inv
  cases iv1.int_inv
  refine ⟨_, (b__law_draw (g := g) G (restJ T I hst hat) hr).run.nox, ?_⟩
  have ma : J.mt a := by rw [hmt]; exact .inl rfl
  have mT : ∀ b, T b → J.mt b := fun b t => by rw [hmt]; exact .inr t
  let pr' : Hp := fun b => open Classical in if F b = none ∧ ¬ J.mt b ∧ ∀ o, H b = some o → NT o then H b else none
  have pr1 : ∀ b o, F b = none → ¬ J.mt b → NT o → H b = some o → pr' b = some o := fun b o h1 h2 h3 h4 => (if_pos ⟨h1, h2, fun o' e => by rw [h4] at e; cases e; exact h3⟩).trans h4
  have pr2 : ∀ b o, pr' b = some o → F b = none ∧ ¬ J.mt b ∧ H b = some o ∧ NT o := fun b o e => by
    have e : (open Classical in if F b = none ∧ ¬ J.mt b ∧ ∀ o, H b = some o → NT o then H b else none) = some o := e
    split at e
    · rename_i h
      exact ⟨h.1, h.2.1, e, h.2.2 o e⟩
    · cases e
  have pr0 : ∀ b, J.mt b → pr' b = none := fun b m => if_neg fun z => z.2.1 m
  have st' : St8 (restJ T I hst hat) pr' F H := ⟨st8.sub, fun b o e => ⟨(pr2 b o e).2.2.1, (pr2 b o e).1⟩, hI, fun b t => ⟨(st8.mtF b (mT b t)).1, pr0 b (mT b t)⟩, fun b o e => e.elim (fun e => st8.nt b o (.inl e)) fun e => (pr2 b o e).2.2.2⟩
  have hand : IsA K mg F [.ref c, .int i, .int d, .int s', .int n] (HandD ns i d s' n) := .cons (.lst hc isA_ints) (.cons (.int _) (.cons (.int _) (.cons (.int _) (.cons (.int _) .nil))))
  have R : Rep K mg (restJ T I hst hat) pr' (hndE a ns i d s' n m .no .no .no) (L2.start N__law_draw [.ref a, .int m]) F H := by
    have R0 := start_rep (N := N__law_draw) (ds := [.tk a, .int m]) (vs := [.ref a, .int m]) st' ia
    refine ⟨st', rfl, fun j t o e1 e2 => ?_, fun j l t t' ne e1 e2 ht ht' => ?_⟩
    · cases j with
      | zero =>
        cases e1
        cases e2
        exact ⟨a, _, rfl, ha, ⟨hand, rfl⟩, (st8.mtF a ma).1, pr0 a ma, hTa⟩
      | succ j => exact R0.sl (j + 1) t o e1 e2
    · have one : ∀ {j : Nat} {t : Sl}, (hndE a ns i d s' n m .no .no .no)[j]? = some t → t.isOwn = true → j = 0 := fun {j t} e h => by
        match j, e with
        | 0, _ => rfl
        | 1, e => cases e; cases h
        | 2, e => cases e; cases h
        | 3, e => cases e; cases h
        | 4, e => cases e; cases h
        | j + 5, e => cases e
      exact absurd ((one e1 ht).trans (one e2 ht').symm) ne
  have out : ∀ {v : V} {r : Int} {e : En} {σ' : L2.St} {F' H' : Hp}, Rep K mg (restJ T I hst hat) pr' e σ' F' H' → Same F F' → Is K mg F' v (.int r) → 0 ≤ r → r < m → (∃ ns i d s k, HandOk ns i d s k ∧ e[0]? = some (.lat a (HandD ns i d s k))) → Q v H' := by
    rintro v r e σ' F' H' R' ff iv r0 r1 ⟨ns', i', d', s2, n', ok', e0⟩
    obtain ⟨vs', _, ha', ia', m'⟩ := lat_at R' e0
    have ha2 : HandAt a F' H' := by
      obtain ⟨u0, r0, rfl, j0, ia'⟩ := ia'.cons_inv
      obtain ⟨u1, r1, rfl, j1, ia'⟩ := ia'.cons_inv
      obtain ⟨u2, r2, rfl, j2, ia'⟩ := ia'.cons_inv
      obtain ⟨u3, r3, rfl, j3, ia'⟩ := ia'.cons_inv
      obtain ⟨u4, rfl, j4⟩ := ia'.one_inv
      obtain ⟨c', xs, rfl, hc', ic⟩ := j0.lst_inv
      rw [j1.int_inv, j2.int_inv, j3.int_inv, j4.int_inv] at ha'
      rw [ic.ints] at hc'
      exact ⟨c', ns', i', d', s2, n', hc', ha', ok'⟩
    have keep : ∀ b o, ¬ J.mt b → NT o → H b = some o → H' b = some o := fun b o mb t e => by
      cases hF : F b with
      | none => exact (R'.st.prk b o (pr1 b o hF mb t e)).1
      | some o' =>
        have e1 := st8.sub b o' hF
        rw [e] at e1
        cases e1
        exact R'.st.sub b o (ff b o hF)
    have mtF' : ∀ b, J.mt b → F' b = none ∧ pr b = none := fun b mb => by
      refine ⟨?_, (st8.mtF b mb).2⟩
      rw [hmt] at mb
      rcases mb with rfl | t
      · exact m'.f
      · exact (R'.st.mtF b t).1
    refine k (.int r) v F' H' ⟨⟨R'.st.sub, fun b o e => ?_, (hinv F' H').mpr ⟨ha2, R'.st.inv⟩, mtF', fun b o e => e.elim (fun e => R'.st.nt b o (.inl e)) fun e => st8.nt b o (.inr e)⟩, ff, keep, fun b o t e fe => ?_⟩ iv (hq r r0 r1)
    · obtain ⟨h1, h2⟩ := st8.prk b o e
      have mb : ¬ J.mt b := fun mb => by
        rw [(st8.mtF b mb).2] at e
        cases e
      exact R'.st.prk b o (pr1 b o h2 mb (st8.nt b o (.inr e)) h1)
    · by_cases mb : J.mt b
      · exact (mtF' b mb).1
      · exact (R'.st.prk b o (pr1 b o fe mb t e)).2
  refine ⟨pr', _, F, { nx := fun _ => False, rt := fun d e => ∃ r : Int, d = .int r ∧ 0 ≤ r ∧ r < m ∧ ∃ ns i d s k, HandOk ns i d s k ∧ e[0]? = some (.lat a (HandD ns i d s k)) }, R,
    v__law_draw _ a ns i d s' n m ok h0 h1 _ fun r e ns i d s k r0 r1 ok e0 => ⟨r, rfl, r0, r1, ns, i, d, s, k, ok, e0⟩,
    ⟨fun _ _ _ _ _ _ h => h.elim, fun d v e σ' F' H' R' ff iv ⟨r, ed, r0, r1, h⟩ => ?_, fun _ _ _ _ _ _ h => h.elim, fun _ _ _ _ _ _ h => h.elim⟩⟩
  subst ed
  exact out R' ff iv r0 r1 h
end DL

/-! V2 (k54): plain proofs of the short defs. -/
namespace DL
open PySem PySem.Spec PyProof.Rows L2
theorem cm {i j : Int} (h0 : 0 ≤ i) (h1 : i ≤ 10000000000000000) : CMul i j := .inl ⟨by omega, by omega⟩
theorem cmr {i j : Int} (h0 : 0 ≤ j) (h1 : j ≤ 10000000000000000) : CMul i j := .inr ⟨by omega, by omega⟩
theorem at0 (p : Int × Int) : atI [D.int p.1, D.int p.2] 0 = some (.int p.1) := atI_nat (j := 0) rfl
theorem at1 (p : Int × Int) : atI [D.int p.1, D.int p.2] 1 = some (.int p.2) := atI_nat (j := 1) rfl
theorem v_is_number (J : GJ) (ds : List D) (q : D → Prop) (_ : ds.length = 1) (h : S_is_number J ds q) : w_is_number J (startE N_is_number ds) (EndQ q) := by
  obtain ⟨i, rfl, hq⟩ := h
  simpa [w_is_number, S_is_integer] using hq
theorem v_is_below (J : GJ) (ds : List D) (q : D → Prop) (_ : ds.length = 2) (h : S_is_below J ds q) : w_is_below J (startE N_is_below ds) (EndQ q) := by
  obtain ⟨x, y, rfl, hx, hy, hq⟩ := h
  have a0 := hx.a0; have a1 := hx.a1; have b0 := hx.b0; have b1 := hx.b1
  have c0 := hy.a0; have c1 := hy.a1; have d0 := hy.b0; have d1 := hy.b1
  simp [w_is_below, at0, at1]
  exact ⟨cm a0 (by omega), cm c0 (by omega), hq⟩
theorem v__law_below (J : GJ) (ds : List D) (q : D → Prop) (_ : ds.length = 2) (h : S__law_below J ds q) : w__law_below J (startE N__law_below ds) (EndQ q) := v_is_below J ds q ‹_› h
theorem v_is_most (J : GJ) (ds : List D) (q : D → Prop) (_ : ds.length = 2) (h : S_is_most J ds q) : w_is_most J (startE N_is_most ds) (EndQ q) := by
  obtain ⟨x, y, rfl, hx, hy, hq⟩ := h
  have a0 := hx.a0; have a1 := hx.a1; have b0 := hx.b0; have b1 := hx.b1
  have c0 := hy.a0; have c1 := hy.a1; have d0 := hy.b0; have d1 := hy.b1
  simp [w_is_most, at0, at1]
  refine ⟨cm a0 (by omega), cm c0 (by omega), ?_⟩
  have e : decide (x.1 * y.2 ≤ y.1 * x.2) = !belowB y x := by
    unfold belowB
    rw [Bool.eq_iff_iff]
    simp
  rw [e]
  exact hq
theorem v_check_rule (J : GJ) (ds : List D) (q : D → Prop) (_ : ds.length = 2) (h : S_check_rule J ds q) : w_check_rule J (startE N_check_rule ds) (EndQ q) := by
  obtain ⟨r, rs, rfl, hr, hl, hq⟩ := h
  have e1 : ∀ xs : List Str, (∀ x ∈ xs, PyData.strOk x = true) → okEA 59 (xs.map D.str) = true := by
    intro xs
    induction xs with
    | nil => intro _; rfl
    | cons x xs ih =>
      intro h
      have h1 := h x List.mem_cons_self
      have h2 := ih fun y hy => h y (List.mem_cons_of_mem _ hy)
      simpa [okEA, okE, h1] using h2
  have e2 : inD (.str r) (rs.map D.str) = true := by
    unfold inD
    rw [List.any_map, List.any_eq_true]
    exact ⟨r, hr, by simp [eqD]⟩
  simp [w_check_rule, isiT, e2, okE]
  exact ⟨hl r hr, e1 rs hl, hq⟩
theorem v_step_of (J : GJ) (ds : List D) (q : D → Prop) (_ : ds.length = 2) (h : S_step_of J ds q) : w_step_of J (startE N_step_of ds) (EndQ q) := by
  obtain ⟨r, h, rfl, h0, h1, hq⟩ := h
  unfold stepI at hq
  simp [w_step_of, okE, eqD]
  by_cases e1 : r = r1
  · rw [if_pos e1] at hq
    exact .inr ⟨e1, hq⟩
  · rw [if_neg e1] at hq
    refine .inl ⟨e1, ?_⟩
    by_cases e2 : r = r2
    · rw [if_pos e2] at hq
      exact .inr ⟨e2, cm (by decide) (by decide), hq⟩
    · rw [if_neg e2] at hq
      exact .inl ⟨e2, hq⟩
theorem v_raw_seats (J : GJ) (ds : List D) (q : D → Prop) (_ : ds.length = 3) (h : S_raw_seats J ds q) : w_raw_seats J (startE N_raw_seats ds) (EndQ q) := by
  obtain ⟨r, vs, m, rfl, hv, h0, h1, hq⟩ := h
  unfold rawI at hq
  simp [w_raw_seats, okE, eqD, S_by_rests, S_one_by_one]
  by_cases e1 : r = r4
  · rw [if_pos e1] at hq
    exact .inr ⟨e1, vs, m, ⟨rfl, rfl⟩, hv, h0, h1, hq⟩
  · rw [if_neg e1] at hq
    exact .inl ⟨e1, r, vs, m, ⟨rfl, rfl, rfl⟩, hv, h0, h1, hq⟩
theorem v_seats (J : GJ) (ds : List D) (q : D → Prop) (_ : ds.length = 3) (h : S_seats J ds q) : w_seats J (startE N_seats ds) (EndQ q) := by
  obtain ⟨r, vs, m, rfl, hr, hv, h0, h1, hq⟩ := h
  simp [w_seats, S_check_votes, S_is_within, S_check_rule, S_raw_seats, tuI]
  refine ⟨vs, rfl, hv, _, _, _, ⟨rfl, rfl, rfl⟩, ⟨h0, h1⟩, r, [r1, r2, r3, r4], ⟨rfl, rfl⟩, hr, by decide +kernel, r, vs, m, ⟨rfl, rfl, rfl⟩, hv, h0, by omega, hq⟩
end DL

/-! V3 (k54): common divisors, fractions. -/
namespace DL
open PySem PySem.Spec PyProof.Rows L2
theorem gcdI_step {a b : Int} (h0 : 0 ≤ a) (h1 : 0 < b) : gcdI b (a % b) = gcdI a b := by
  obtain ⟨n, rfl⟩ := Int.eq_ofNat_of_zero_le h0
  obtain ⟨m, rfl⟩ := Int.eq_ofNat_of_zero_le (Int.le_of_lt h1)
  unfold gcdI
  have e : (n : Int) % (m : Int) = ((n % m : Nat) : Int) := rfl
  rw [e, Int.gcd_natCast_natCast, Int.gcd_natCast_natCast, Nat.gcd_comm n m, Nat.gcd_rec m n, Nat.gcd_comm]
theorem gcdI_zero {a : Int} (h0 : 0 ≤ a) : gcdI a 0 = a := by
  unfold gcdI
  rw [Int.gcd_zero_right]
  omega
theorem gcdI_pos {a b : Int} (h : 0 < b) : 0 < gcdI a b := by
  unfold gcdI
  have := Int.gcd_pos_of_ne_zero_right a (b := b) (by omega)
  omega
theorem gcdI_le {a b : Int} (h : 0 < b) : gcdI a b ≤ b := by
  unfold gcdI
  exact Int.le_of_dvd h (Int.gcd_dvd_right ..)
theorem v_divisor_of (J : GJ) (ds : List D) (q : D → Prop) (_ : ds.length = 2) (h : S_divisor_of J ds q) : w_divisor_of J (startE N_divisor_of ds) (EndQ q) := by
  obtain ⟨a, b, rfl, h0, h1, hq⟩ := h
  refine seq_step [.val (.int (gcdI a b)), .val (.int 0)] (fun E _ _ _ hE => ?_) ?_
  · refine ⟨fun m e => ∃ a' b' : Int, e = [.val (.int a'), .val (.int b')] ∧ 0 ≤ a' ∧ 0 ≤ b' ∧ m = b'.toNat ∧ gcdI a' b' = gcdI a b, ⟨_, a, b, rfl, h0, h1, rfl, rfl⟩, ?_⟩
    rintro m e ⟨a', b', rfl, ha, hb, rfl, hg⟩
    simp
    by_cases hp : 0 < b'
    · exact .inr ⟨hp, (a' % b').toNat, by have := Int.emod_lt_of_pos a' hp; have := Int.emod_nonneg a' (b := b') (by omega); omega, b', a' % b', ⟨rfl, rfl⟩, hb, Int.emod_nonneg _ (by omega), rfl, by rw [gcdI_step ha hp, hg]⟩
    · have : b' = 0 := by omega
      subst this
      rw [gcdI_zero ha] at hg
      rw [hg]
      exact .inl ⟨by omega, hE⟩
  · simp
    exact hq
theorem v_lowest (J : GJ) (ds : List D) (q : D → Prop) (_ : ds.length = 2) (h : S_lowest J ds q) : w_lowest J (startE N_lowest ds) (EndQ q) := by
  obtain ⟨a, b, rfl, hf, hq⟩ := h
  have a0 := hf.a0; have b0 := hf.b0; have b1 := hf.b1
  simp only at a0 b0 b1
  have g0 := gcdI_pos (a := a) b0
  have g1 := gcdI_le (a := a) b0
  simp [w_lowest, S_divisor_of]
  exact .inl ⟨by omega, a, b, ⟨if_neg (by omega), rfl⟩, a0, by omega, ⟨g0, by omega⟩, hq⟩
theorem v__law_low (J : GJ) (ds : List D) (q : D → Prop) (_ : ds.length = 2) (h : S__law_low J ds q) : w__law_low J (startE N__law_low ds) (EndQ q) := by
  obtain ⟨a, b, rfl, hf, hq⟩ := h
  have a0 := hf.a0; have b0 := hf.b0; have b1 := hf.b1
  simp only at a0 b0 b1
  have g0 := gcdI_pos (a := a) b0
  have g1 := gcdI_le (a := a) b0
  refine seq_step [.val (.int a), .val (.int b), .val (.int a), .val (.int b)] (fun E _ _ _ hE => ?_) ?_
  · simp
    rw [if_neg (by omega)]
    exact hE
  refine seq_step [.val (.int a), .val (.int b), .val (.int (gcdI a b)), .val (.int 0)] (fun E _ _ _ hE => ?_) ?_
  · refine ⟨fun m e => ∃ a' b' : Int, e = [.val (.int a), .val (.int b), .val (.int a'), .val (.int b')] ∧ 0 ≤ a' ∧ 0 ≤ b' ∧ m = b'.toNat ∧ gcdI a' b' = gcdI a b, ⟨_, a, b, rfl, a0, by omega, rfl, rfl⟩, ?_⟩
    rintro m e ⟨a', b', rfl, ha, hb, rfl, hg⟩
    simp
    by_cases hp : 0 < b'
    · exact .inr ⟨hp, (a' % b').toNat, by have := Int.emod_lt_of_pos a' hp; have := Int.emod_nonneg a' (b := b') (by omega); omega, b', a' % b', ⟨rfl, rfl⟩, hb, Int.emod_nonneg _ (by omega), rfl, by rw [gcdI_step ha hp, hg]⟩
    · have : b' = 0 := by omega
      subst this
      rw [gcdI_zero ha] at hg
      rw [hg]
      exact .inl ⟨by omega, hE⟩
  · simp
    exact ⟨⟨g0, by omega⟩, hq⟩
theorem cutD_up (xs : List D) (k : Nat) (h : k ≤ xs.length) : cutD xs (some (k : Int)) none = xs.drop k := by
  unfold cutD
  rw [HT.sIx_nat, HT.sIx_none, Nat.min_eq_left h]
  exact List.take_of_length_le (by rw [List.length_drop]; omega)
theorem cutD_lo (xs : List D) (k : Nat) (h : k ≤ xs.length) : cutD xs none (some (k : Int)) = xs.take k := by
  unfold cutD
  rw [HT.sIx_nat, HT.sIx_none, Nat.min_eq_left h]
  simp
theorem fold_max (J : GJ) {E : DEnds} (ps : List (Int × Int)) : ∀ (rs : List (Int × Int)) (a : Int × Int) (x : Sl), FOk a → (∀ p ∈ rs, FOk p) →
    (∀ x, E.nx [.val (.lst (ps.map pairD)), .val (pairD (rs.foldl (fun a x => if belowB a x then x else a) a)), x]) →
    forGo (gN 2) (sIf (wTB (wCall J S_is_below 2 (wCons (wOf (wVar 1)) (wCons (wOf (wVar 2)) wNil)))) (sSet 1 (wVal (wVar 2))) sNil) E (rs.map pairD) [.val (.lst (ps.map pairD)), .val (pairD a), x]
  | [], a, x, _, _, hE => hE x
  | r :: rs, a, x, ha, hr, hE => by
    have hr1 := hr r List.mem_cons_self
    have hr2 : ∀ p ∈ rs, FOk p := fun p hp => hr p (List.mem_cons_of_mem _ hp)
    simp only [List.map_cons, forGo]
    simp [S_is_below]
    refine ⟨a.1, a.2, r.1, r.2, ⟨⟨rfl, rfl⟩, rfl, rfl⟩, ha, hr1, ?_⟩
    cases hb : belowB a r with
    | true =>
      rw [if_pos rfl]
      exact fold_max J ps rs r _ hr1 hr2 (by simpa [List.foldl_cons, hb] using hE)
    | false =>
      rw [if_neg (by simp)]
      exact fold_max J ps rs a _ ha hr2 (by simpa [List.foldl_cons, hb] using hE)
theorem v_greatest (J : GJ) (ds : List D) (q : D → Prop) (_ : ds.length = 1) (h : S_greatest J ds q) : w_greatest J (startE N_greatest ds) (EndQ q) := by
  obtain ⟨ps, rfl, hne, hok, hq⟩ := h
  cases ps with
  | nil => exact absurd rfl hne
  | cons p ps =>
    refine seq_step [.val (.lst ((p :: ps).map pairD)), .val (pairD p), .no] (fun E _ _ _ hE => ?_) ?_
    · simp
      exact ⟨_, atI_nat (j := 0) rfl, hE⟩
    refine seq_stepP (fun e => ∃ x, e = [.val (.lst ((p :: ps).map pairD)), .val (pairD (maxF (p :: ps))), x]) (fun E _ _ _ hE => ?_) fun e he => ?_
    · have ec : cutD ((p :: ps).map pairD) (some 1) none = ps.map pairD := by
        have := cutD_up ((p :: ps).map pairD) 1 (by simp)
        simpa using this
      simp only [sFor, wIs, wSl]
      simp [-List.map_cons, ec]
      exact fold_max J (p :: ps) ps p _ (hok p List.mem_cons_self) (fun r hr => hok r (List.mem_cons_of_mem _ hr)) fun x => hE _ ⟨x, rfl⟩
    · obtain ⟨x, rfl⟩ := he
      simpa using hq
theorem fold_min (J : GJ) {E : DEnds} (ps : List (Int × Int)) : ∀ (rs : List (Int × Int)) (a : Int × Int) (x : Sl), FOk a → (∀ p ∈ rs, FOk p) →
    (∀ x, E.nx [.val (.lst (ps.map pairD)), .val (pairD (rs.foldl (fun a x => if belowB x a then x else a) a)), x]) →
    forGo (gN 2) (sIf (wTB (wCall J S_is_below 2 (wCons (wOf (wVar 2)) (wCons (wOf (wVar 1)) wNil)))) (sSet 1 (wVal (wVar 2))) sNil) E (rs.map pairD) [.val (.lst (ps.map pairD)), .val (pairD a), x]
  | [], a, x, _, _, hE => hE x
  | r :: rs, a, x, ha, hr, hE => by
    have hr1 := hr r List.mem_cons_self
    have hr2 : ∀ p ∈ rs, FOk p := fun p hp => hr p (List.mem_cons_of_mem _ hp)
    simp only [List.map_cons, forGo]
    simp [S_is_below]
    refine ⟨r.1, r.2, a.1, a.2, ⟨⟨rfl, rfl⟩, rfl, rfl⟩, hr1, ha, ?_⟩
    cases hb : belowB r a with
    | true =>
      rw [if_pos rfl]
      exact fold_min J ps rs r _ hr1 hr2 (by simpa [List.foldl_cons, hb] using hE)
    | false =>
      rw [if_neg (by simp)]
      exact fold_min J ps rs a _ ha hr2 (by simpa [List.foldl_cons, hb] using hE)
theorem v_least (J : GJ) (ds : List D) (q : D → Prop) (_ : ds.length = 1) (h : S_least J ds q) : w_least J (startE N_least ds) (EndQ q) := by
  obtain ⟨ps, rfl, hne, hok, hq⟩ := h
  cases ps with
  | nil => exact absurd rfl hne
  | cons p ps =>
    refine seq_step [.val (.lst ((p :: ps).map pairD)), .val (pairD p), .no] (fun E _ _ _ hE => ?_) ?_
    · simp
      exact ⟨_, atI_nat (j := 0) rfl, hE⟩
    refine seq_stepP (fun e => ∃ x, e = [.val (.lst ((p :: ps).map pairD)), .val (pairD (minF (p :: ps))), x]) (fun E _ _ _ hE => ?_) fun e he => ?_
    · have ec : cutD ((p :: ps).map pairD) (some 1) none = ps.map pairD := by
        have := cutD_up ((p :: ps).map pairD) 1 (by simp)
        simpa using this
      simp only [sFor, wIs, wSl]
      simp [-List.map_cons, ec]
      exact fold_min J (p :: ps) ps p _ (hok p List.mem_cons_self) (fun r hr => hok r (List.mem_cons_of_mem _ hr)) fun x => hE _ ⟨x, rfl⟩
    · obtain ⟨x, rfl⟩ := he
      simpa using hq
end DL

/-! V4 (k54): votes checked, who is ahead. -/
namespace DL
open PySem PySem.Spec PyProof.Rows L2
theorem v_check_votes (J : GJ) (ds : List D) (q : D → Prop) (_ : ds.length = 1) (h : S_check_votes J ds q) : w_check_votes J (startE N_check_votes ds) (EndQ q) := by
  obtain ⟨vs, rfl, hv, hq⟩ := h
  have h1 := hv.lo; have h2 := hv.hi; have h3 := hv.pos
  simp [w_check_votes, S_is_sized, tuI]
  refine ⟨_, _, _, ⟨rfl, rfl, rfl⟩, ?_⟩
  refine ⟨by simp; omega, rfl, ?_⟩
  refine lc_map1 D.int (fun _ => .bl true) rfl vs (fun v hv' k hk => ?_) (small_sz (by omega)) ?_
  · simp [S_is_number]
    have : 0 ≤ v := hv.nn v hv'
    simpa [this] using hk
  refine ⟨List.replicate vs.length true, by simp [List.map_const'], by simp, trivial, _, rfl, vs, rfl, ?_⟩
  simp [okE, eqD]
  exact ⟨by omega, hq⟩
theorem v_is_ahead (J : GJ) (ds : List D) (q : D → Prop) (_ : ds.length = 2) (h : S_is_ahead J ds q) : w_is_ahead J (startE N_is_ahead ds) (EndQ q) := by
  obtain ⟨x, y, rfl, ⟨a1, a0, b0, b1⟩, ⟨c1, c0, d0, d1⟩, hq⟩ := h
  refine seq_step [.val (pairD (nrm x)), .val (pairD (nrm y)), .no, .no] (fun E _ _ _ hE => ?_) ?_
  · simp [at0, at1, okE, eqD]
    have ex : ∀ z : Int × Int, (z.1 ≤ 0 ∧ nrm z = (0, 1)) ∨ (0 < z.1 ∧ nrm z = z) := fun z => by
      unfold nrm
      by_cases h : 0 < z.1
      · exact .inr ⟨h, if_pos h⟩
      · exact .inl ⟨by omega, if_neg h⟩
    rcases ex x with ⟨h1, e1⟩ | ⟨h1, e1⟩ <;> rcases ex y with ⟨h2, e2⟩ | ⟨h2, e2⟩ <;> rw [e1, e2] at hE
    · exact .inl ⟨h1, .inl ⟨h2, hE⟩⟩
    · exact .inl ⟨h1, .inr ⟨h2, hE⟩⟩
    · exact .inr ⟨h1, .inl ⟨h2, hE⟩⟩
    · exact .inr ⟨h1, .inr ⟨h2, hE⟩⟩
  have bx : 0 ≤ (nrm x).1 ∧ (nrm x).1 ≤ 10000000000000 := by
    unfold nrm
    split
    · exact ⟨a0, a1⟩
    · exact ⟨by decide, by decide⟩
  have by_ : 0 ≤ (nrm y).1 ∧ (nrm y).1 ≤ 10000000000000 := by
    unfold nrm
    split
    · exact ⟨c0, c1⟩
    · exact ⟨by decide, by decide⟩
  unfold aheadB at hq
  generalize nrm x = u at hq bx
  generalize nrm y = v at hq by_
  refine seq_step [.val (pairD u), .val (pairD v), .val (.int (u.1 * v.2)), .val (.int (v.1 * u.2))] (fun E _ _ _ hE => ?_) ?_
  · simp [at0, at1]
    exact ⟨cm bx.1 (by omega), cm by_.1 (by omega), hE⟩
  simp [at0, at1, okE, eqD]
  by_cases hu : u.2 = 0
  · by_cases hv : v.2 = 0
    · rw [if_pos ⟨hu, hv⟩] at hq
      exact .inr ⟨hu, .inr ⟨hv, by simpa using hq⟩⟩
    · rw [if_neg (by simp [hv]), if_pos (.inl hu)] at hq
      refine .inr ⟨hu, .inl ⟨hv, ?_⟩⟩
      simpa [hu, hv] using hq
  · rw [if_neg (by simp [hu])] at hq
    refine .inl ⟨hu, ?_⟩
    by_cases hv : v.2 = 0
    · rw [if_pos (.inr hv)] at hq
      have e : (u.2 == 0) = false := by simpa using hu
      simp [hv, e]
      simpa [hu] using hq
    · rw [if_neg (by simp [hu, hv])] at hq
      simpa [hu, hv] using hq
end DL

/-! V5 (k54): seats one by one. -/
namespace DL
open PySem PySem.Spec PyProof.Rows L2
theorem at_ints {vs : List Int} {i : Nat} (h : i < vs.length) : atI (vs.map D.int) (i : Nat) = some (.int (vs.getD i 0)) := atI_map (by rw [List.getD_eq_getElem?_getD, List.getElem?_eq_getElem h]; rfl)
theorem ixN_at {n j : Nat} (hj : j < n) : ixN n (j : Int) = some j := by
  unfold ixN
  rw [if_pos (Int.natCast_nonneg _), if_pos (by omega)]
  rfl
theorem getD_mem {vs : List Int} {i : Nat} (h : i < vs.length) : vs.getD i 0 ∈ vs := by
  rw [List.getD_eq_getElem?_getD, List.getElem?_eq_getElem h]
  exact List.getElem_mem h
theorem VOk.at {vs : List Int} (hv : VOk vs) (i : Nat) : 0 ≤ vs.getD i 0 ∧ vs.getD i 0 ≤ 1000000000000 := by
  by_cases h : i < vs.length
  · exact ⟨hv.nn _ (getD_mem h), hv.top _ (getD_mem h)⟩
  · rw [List.getD_eq_getElem?_getD, List.getElem?_eq_none (by omega)]
    exact ⟨Int.le_refl _, by decide⟩
theorem TOk.at {vs ts : List Int} (hv : TOk vs ts) (i : Nat) : 0 ≤ ts.getD i 0 ∧ ts.getD i 0 ≤ 1000 := by
  by_cases h : i < ts.length
  · exact ⟨hv.nn _ (getD_mem h), hv.top _ (getD_mem h)⟩
  · rw [List.getD_eq_getElem?_getD, List.getElem?_eq_none (by omega)]
    exact ⟨Int.le_refl _, by decide⟩
theorem step_ok (r : Str) {h : Int} (h0 : 0 ≤ h) (h1 : h ≤ 1000) : 0 ≤ stepI r h ∧ stepI r h ≤ 2001 := by
  unfold stepI
  split
  · omega
  · split <;> omega
theorem fold_lt {f : Nat → Nat → Bool} {n : Nat} : ∀ (xs : List Nat) (b : Nat), b < n → (∀ x ∈ xs, x < n) → xs.foldl (fun b i => if f i b then i else b) b < n
  | [], b, h, _ => h
  | x :: xs, b, h, hx => by
    rw [List.foldl_cons]
    refine fold_lt xs _ ?_ fun y hy => hx y (List.mem_cons_of_mem _ hy)
    split
    · exact hx x List.mem_cons_self
    · exact h
theorem nextI_lt {r : Str} {vs ts : List Int} (h : 1 ≤ vs.length) : nextI r vs ts < vs.length := by
  unfold nextI
  exact fold_lt (f := fun i b => aheadB (keyI r vs ts i) (keyI r vs ts b)) _ _ h fun x hx => List.mem_range.mp hx
theorem nextI_from1 {r : Str} {vs ts : List Int} (h : 1 ≤ vs.length) : nextI r vs ts = (List.range' 1 (vs.length - 1)).foldl (fun b i => if aheadB (keyI r vs ts i) (keyI r vs ts b) then i else b) 0 := by
  unfold nextI
  obtain ⟨k, hk⟩ : ∃ k, vs.length = k + 1 := ⟨vs.length - 1, by omega⟩
  rw [hk, List.range_eq_range', List.range'_succ, List.foldl_cons]
  congr 1
  split <;> rfl
theorem bump_ok {vs ts : List Int} (h : ts.length = vs.length) (b : Nat) : (bump ts b).length = vs.length := by
  unfold bump
  rw [List.length_set, h]
theorem seats_ok {r : Str} {vs : List Int} (h : 1 ≤ vs.length) : ∀ k, (seatsI r vs k).length = vs.length ∧ ∀ t ∈ seatsI r vs k, 0 ≤ t ∧ t ≤ k
  | 0 => by
    refine ⟨by simp [seatsI], fun t ht => ?_⟩
    have := List.eq_of_mem_replicate (show t ∈ List.replicate vs.length 0 from ht)
    omega
  | k + 1 => by
    obtain ⟨h1, h2⟩ := seats_ok (r := r) h k
    refine ⟨bump_ok h1 _, fun t ht => ?_⟩
    have ht : t ∈ bump (seatsI r vs k) (nextI r vs (seatsI r vs k)) := ht
    unfold bump at ht
    rcases List.mem_or_eq_of_mem_set ht with hm | e
    · have := h2 t hm
      omega
    · have hl := nextI_lt (r := r) (ts := seatsI r vs k) h
      have := h2 _ (getD_mem (i := nextI r vs (seatsI r vs k)) (by omega))
      omega
theorem seats_tok {r : Str} {vs : List Int} (hv : VOk vs) {k : Nat} (h : k ≤ 1000) : TOk vs (seatsI r vs k) := by
  obtain ⟨h1, h2⟩ := seats_ok (r := r) hv.lo k
  exact ⟨h1, fun t ht => (h2 t ht).1, fun t ht => by have := (h2 t ht).2; omega⟩
theorem rgD_one (k : Nat) : rgD 1 1 k = (List.range' 1 k).map fun i => D.int (i : Nat) := by
  unfold rgD
  rw [List.range'_eq_map_range, List.map_map]
  exact List.map_congr_left fun i _ => by
    show D.int (1 + (i : Nat) * 1) = D.int ((1 + i : Nat) : Int)
    congr 1
    omega
theorem fold_ahead (J : GJ) {E : DEnds} {r : Str} {vs ts : List Int} (hv : VOk vs) (ht : TOk vs ts) (m : D) (t : Sl) : ∀ (xs : List Nat) (b : Nat) (o : Sl), b < vs.length → (∀ x ∈ xs, x < vs.length) →
    (∀ o, E.nx [.val (tuI vs), .val m, .val (.str r), .own (ts.map D.int), t, .val (.int (xs.foldl (fun b i => if aheadB (keyI r vs ts i) (keyI r vs ts b) then i else b) b : Nat)), o]) →
    forGo (gN 6) (sIf (wTB (wCall J S_is_ahead 2 (wCons (wOf (wTup (wCons (wOf (w2 oIx (wB 0) (wB 6))) (wCons (wOf (wCall J S_step_of 2 (wCons (wOf (wVar 2)) (wCons (wOf (w2 oIx (wB 3) (wB 6))) wNil)))) wNil)))) (wCons (wOf (wTup (wCons (wOf (w2 oIx (wB 0) (wB 5))) (wCons (wOf (wCall J S_step_of 2 (wCons (wOf (wVar 2)) (wCons (wOf (w2 oIx (wB 3) (wB 5))) wNil)))) wNil)))) wNil)))) (sSet 5 (wVal (wVar 6))) sNil) E
      (xs.map fun i => D.int (i : Nat)) [.val (tuI vs), .val m, .val (.str r), .own (ts.map D.int), t, .val (.int (b : Nat)), o]
  | [], b, o, _, _, hE => hE o
  | x :: xs, b, o, hb, hx, hE => by
    have hx1 := hx x List.mem_cons_self
    have hx2 : ∀ p ∈ xs, p < vs.length := fun p hp => hx p (List.mem_cons_of_mem _ hp)
    have v1 := hv.at x; have v2 := hv.at b; have t1 := ht.at x; have t2 := ht.at b
    have s1 := step_ok r t1.1 t1.2; have s2 := step_ok r t2.1 t2.2
    have hl := ht.len
    simp only [List.map_cons, forGo]
    simp [S_is_ahead, S_step_of, tuI]
    refine ⟨_, at_ints hx1, _, at_ints (by omega), r, _, ⟨rfl, rfl⟩, t1.1, t1.2, _, at_ints hb, _, at_ints (by omega), r, _, ⟨rfl, rfl⟩, t2.1, t2.2, _, _, _, _, ⟨⟨rfl, rfl⟩, rfl, rfl⟩, ⟨by omega, by omega, by omega, by omega⟩, ⟨by omega, by omega, by omega, by omega⟩, ?_⟩
    cases hb2 : aheadB (keyI r vs ts x) (keyI r vs ts b) with
    | true =>
      have hb3 : aheadB (vs.getD x 0, stepI r (ts.getD x 0)) (vs.getD b 0, stepI r (ts.getD b 0)) = true := hb2
      rw [hb3]
      rw [if_pos rfl]
      exact fold_ahead J hv ht m t xs x _ hx1 hx2 (by simpa [List.foldl_cons, hb2] using hE)
    | false =>
      have hb3 : aheadB (vs.getD x 0, stepI r (ts.getD x 0)) (vs.getD b 0, stepI r (ts.getD b 0)) = false := hb2
      rw [hb3]
      rw [if_neg (by simp)]
      exact fold_ahead J hv ht m t xs b _ hb hx2 (by simpa [List.foldl_cons, hb2] using hE)
theorem v_one_by_one (J : GJ) (ds : List D) (q : D → Prop) (_ : ds.length = 3) (h : S_one_by_one J ds q) : w_one_by_one J (startE N_one_by_one ds) (EndQ q) := by
  obtain ⟨r, vs, m, rfl, hv, h0, h1, hq⟩ := h
  have n0 := hv.lo; have n1 := hv.hi
  refine seq_step [.val (tuI vs), .val (.int m), .val (.str r), .own ((seatsI r vs 0).map D.int), .no, .no, .no] (fun E _ _ _ hE => ?_) ?_
  · simp [tuI]
    refine ⟨by omega, small_sz (by omega), ?_⟩
    simpa [seatsI, tuI] using hE
  refine seq_stepP (fun e => ∃ t b o, e = [.val (tuI vs), .val (.int m), .val (.str r), .own ((seatsI r vs m.toNat).map D.int), t, b, o]) (fun E _ _ _ hE => ?_) fun e he => ?_
  · simp only [sFor, wR1]
    simp
    refine ⟨⟨by omega, by omega⟩, ?_⟩
    rw [rgD_nat]
    refine for_ind (α := Nat) _ (fun xs e => ∃ k t b o, xs = List.range' k (m.toNat - k) ∧ k ≤ m.toNat ∧ e = [.val (tuI vs), .val (.int m), .val (.str r), .own ((seatsI r vs k).map D.int), t, b, o]) (fun e h => ?_) (fun x xs e h R hR => ?_) _ _ ⟨0, .no, .no, .no, List.range_eq_range', Nat.zero_le _, rfl⟩
    · obtain ⟨k, t, b, o, e1, e2, rfl⟩ := h
      have hk : m.toNat - k = 0 := by
        have := congrArg List.length e1
        simpa using this.symm
      have : k = m.toNat := by omega
      subst this
      exact hE _ ⟨t, b, o, rfl⟩
    · obtain ⟨k, t, b, o, e1, e2, rfl⟩ := h
      have hk : m.toNat - k = (m.toNat - (k + 1)) + 1 := by
        have := congrArg List.length e1
        simp at this
        omega
      rw [hk, List.range'_succ] at e1
      obtain ⟨rfl, rfl⟩ := List.cons.inj e1
      have ht := seats_tok (r := r) hv (k := x) (by omega)
      have hn := nextI_lt (r := r) (ts := seatsI r vs x) n0
      have hl := ht.len
      refine seq_step [.val (tuI vs), .val (.int m), .val (.str r), .own ((seatsI r vs x).map D.int), .val (.int (x : Nat)), .val (.int 0), o] (fun E' _ _ _ hE' => ?_) ?_
      · simpa using hE'
      refine seq_stepP (fun e => ∃ o, e = [.val (tuI vs), .val (.int m), .val (.str r), .own ((seatsI r vs x).map D.int), .val (.int (x : Nat)), .val (.int (nextI r vs (seatsI r vs x) : Nat)), o]) (fun E' _ _ _ hE' => ?_) fun e he => ?_
      · simp only [sFor, wR2]
        simp [tuI]
        refine ⟨_, _, ⟨rfl, rfl⟩, by omega, ?_⟩
        rw [show ((vs.length : Int) - 1).toNat = vs.length - 1 by omega, rgD_one]
        refine fold_ahead J hv ht (.int m) (.val (.int (x : Nat))) _ 0 o n0 (fun y hy => ?_) fun o => ?_
        · have := List.mem_range'_1.mp hy
          omega
        · rw [← nextI_from1 n0]
          exact hE' _ ⟨o, rfl⟩
      · obtain ⟨o, rfl⟩ := he
        simp
        refine ⟨_, at_ints (by omega), _, ixN_at (by simpa [hl] using hn), hR _ ⟨x + 1, .val (.int (x : Nat)), .val (.int (nextI r vs (seatsI r vs x) : Nat)), o, rfl, by omega, ?_⟩⟩
        simp [seatsI, bump, List.map_set]
  · obtain ⟨t, b, o, rfl⟩ := he
    simpa [tuI] using hq
end DL

/-! V6 (k54): seats by rests. -/
namespace DL
open PySem PySem.Spec PyProof.Rows L2
/-! ### picks: who of range n gets one more -/
def cnt (n : Nat) (P : Nat → Bool) : Nat := ((List.range n).filter P).length
structure Closed (vs : List Int) (m : Int) (P : Nat → Bool) : Prop where
  cl : ∀ i j, i < vs.length → j < vs.length → P i = true → P j = false → befI vs m i j = true
theorem bef_asym {vs : List Int} {m : Int} {i j : Nat} (h : befI vs m i j = true) : befI vs m j i = false := by
  unfold befI at h ⊢
  simp only [Bool.or_eq_true, Bool.and_eq_true, decide_eq_true_eq] at h
  rw [Bool.eq_false_iff]
  intro h2
  simp only [Bool.or_eq_true, Bool.and_eq_true, decide_eq_true_eq] at h2
  omega
theorem bef_self {vs : List Int} {m : Int} {i : Nat} : befI vs m i i = false := by
  unfold befI
  simp
theorem cnt_le {n : Nat} {P Q : Nat → Bool} (h : ∀ i, i < n → P i = true → Q i = true) : cnt n P ≤ cnt n Q := by
  induction n with
  | zero => simp [cnt]
  | succ n ih =>
    have := ih fun i hi => h i (by omega)
    unfold cnt at this ⊢
    rw [List.range_succ, List.filter_append, List.filter_append, List.length_append, List.length_append]
    have h2 := h n (by omega)
    cases hP : P n with
    | true =>
      rw [List.filter_cons_of_pos (by rw [hP]), List.filter_cons_of_pos (by rw [h2 hP])]
      simp
      omega
    | false =>
      rw [List.filter_cons_of_neg (by rw [hP]; decide)]
      simp
      omega
theorem cnt_add {n : Nat} {P : Nat → Bool} {b : Nat} (hb : b < n) (hP : P b = false) : cnt n (fun i => P i || i == b) = cnt n P + 1 := by
  induction n with
  | zero => omega
  | succ n ih =>
    unfold cnt at ih ⊢
    rw [List.range_succ, List.filter_append, List.filter_append, List.length_append, List.length_append]
    by_cases e : b = n
    · subst e
      have : (List.range b).filter (fun i => P i || i == b) = (List.range b).filter P := List.filter_congr fun x hx => by
        have := List.mem_range.mp hx
        have : (x == b) = false := by simp; omega
        rw [this, Bool.or_false]
      rw [this, List.filter_cons_of_pos (by simp), List.filter_cons_of_neg (by rw [hP]; decide)]
      simp
    · rw [ih (by omega)]
      have : (n == b) = false := by simp; omega
      cases hn : P n with
      | true =>
        rw [List.filter_cons_of_pos (by simp [hn]), List.filter_cons_of_pos (by rw [hn])]
        simp only [List.filter_nil, List.length_cons, List.length_nil]
      | false =>
        rw [List.filter_cons_of_neg (by simp [hn, this]), List.filter_cons_of_neg (by rw [hn]; decide)]
        simp
theorem cnt_one {n : Nat} {P : Nat → Bool} {i : Nat} (hi : i < n) (h : P i = false) (Q : Nat → Bool) (hQ : ∀ j, j < n → P j = true → Q j = true) (hi2 : Q i = true) : cnt n P + 1 ≤ cnt n Q := by
  rw [← cnt_add hi h]
  refine cnt_le fun j hj hp => ?_
  simp only [Bool.or_eq_true, beq_iff_eq] at hp
  rcases hp with hp | e
  · exact hQ j hj hp
  · rw [e]
    exact hi2
/-- a closed pick is told by its size -/
theorem closed_rank {vs : List Int} {m : Int} {P : Nat → Bool} (h : Closed vs m P) {i : Nat} (hi : i < vs.length) : P i = decide (rankI vs m i < cnt vs.length P) := by
  have er : rankI vs m i = cnt vs.length fun j => befI vs m j i := rfl
  cases hP : P i with
  | true =>
    have : rankI vs m i + 1 ≤ cnt vs.length P := by
      rw [er]
      refine cnt_one (P := fun j => befI vs m j i) hi bef_self P (fun j hj hb => ?_) hP
      cases hj2 : P j with
      | true => rfl
      | false =>
        have := bef_asym (h.cl i j hi hj hP hj2)
        rw [hb] at this
        cases this
    rw [decide_eq_true (by omega)]
  | false =>
    have : cnt vs.length P ≤ rankI vs m i := by
      rw [er]
      exact cnt_le fun j hj hp => h.cl j i hj hi hp hP
    rw [decide_eq_false (by omega)]
theorem cnt_all {n : Nat} {P : Nat → Bool} (h : cnt n P < n) : ∃ i, i < n ∧ P i = false := by
  apply Classical.byContradiction
  intro hn
  have : cnt n (fun _ => true) ≤ cnt n P := cnt_le fun i hi _ => by
    cases hP : P i with
    | true => rfl
    | false => exact absurd ⟨i, hi, hP⟩ hn
  have e : cnt n (fun _ => true) = n := by
    unfold cnt
    rw [filter_yes, List.length_range]
  omega
/-! ### sums -/
theorem map_getD {α : Type} (g : Int → α) : ∀ vs : List Int, vs.map g = (List.range vs.length).map fun i => g (vs.getD i 0) := by
  intro vs
  refine List.ext_getElem? fun i => ?_
  rw [List.getElem?_map, List.getElem?_map]
  by_cases h : i < vs.length
  · rw [List.getElem?_range h, List.getElem?_eq_getElem h]
    simp [List.getD_eq_getElem?_getD, List.getElem?_eq_getElem h]
  · rw [List.getElem?_eq_none (by omega), List.getElem?_eq_none (by simp; omega)]
    rfl
theorem sum_getD (vs : List Int) : vs.sum = ((List.range vs.length).map fun i => vs.getD i 0).sum := by
  have := map_getD (fun x => x) vs
  rw [List.map_id'] at this
  exact congrArg List.sum this
theorem sum_add {n : Nat} (f g : Nat → Int) : ((List.range n).map fun i => f i + g i).sum = ((List.range n).map f).sum + ((List.range n).map g).sum := by
  induction n with
  | zero => rfl
  | succ n ih =>
    rw [List.range_succ]
    simp only [List.map_append, List.sum_append, ih]
    simp
    omega
theorem sum_mulr {n : Nat} (f : Nat → Int) (m : Int) : ((List.range n).map fun i => f i * m).sum = ((List.range n).map f).sum * m := by
  induction n with
  | zero => simp
  | succ n ih =>
    rw [List.range_succ]
    simp only [List.map_append, List.sum_append, ih]
    simp [Int.add_mul]
theorem sum_le {n : Nat} (f : Nat → Int) (c : Int) (h : ∀ i, i < n → f i ≤ c) : ((List.range n).map f).sum ≤ n * c := by
  induction n with
  | zero => simp
  | succ n ih =>
    have h1 := ih fun i hi => h i (by omega)
    have h2 := h n (by omega)
    rw [List.range_succ]
    simp only [List.map_append, List.sum_append]
    have : ((n + 1 : Nat) : Int) * c = n * c + c := by
      rw [Int.natCast_add, Int.add_mul]
      simp
    rw [this]
    simp
    omega
theorem sum_nn {n : Nat} (f : Nat → Int) (h : ∀ i, i < n → 0 ≤ f i) : 0 ≤ ((List.range n).map f).sum := by
  induction n with
  | zero => simp
  | succ n ih =>
    have h1 := ih fun i hi => h i (by omega)
    have h2 := h n (by omega)
    rw [List.range_succ]
    simp only [List.map_append, List.sum_append]
    simp
    omega
theorem sum_ite {n : Nat} (P : Nat → Bool) : ((List.range n).map fun i => if P i = true then (1 : Int) else 0).sum = cnt n P := by
  induction n with
  | zero => rfl
  | succ n ih =>
    unfold cnt at ih ⊢
    rw [List.range_succ, List.filter_append, List.length_append]
    simp only [List.map_append, List.sum_append, ih]
    cases hP : P n with
    | true => simp [hP]
    | false => simp [hP]
theorem over_ok {vs : List Int} {m : Int} (hv : VOk vs) (i : Nat) : 0 ≤ overI vs m i ∧ overI vs m i < vs.sum := by
  have := hv.pos
  exact ⟨Int.emod_nonneg _ (by omega), Int.emod_lt_of_pos _ this⟩
theorem left_ok {vs : List Int} {m : Int} (hv : VOk vs) (_ : 0 ≤ m) : 0 ≤ leftI vs m ∧ leftI vs m < vs.length := by
  have hp := hv.pos
  have e : vs.sum * m = ((List.range vs.length).map fun i => vs.sum * baseI vs m i + overI vs m i).sum := by
    rw [sum_getD vs, ← sum_mulr]
    rw [← sum_getD vs]
    congr 1
    refine List.map_congr_left fun i _ => ?_
    exact (Int.mul_ediv_add_emod (vs.getD i 0 * m) vs.sum).symm
  rw [sum_add] at e
  have e2 : ((List.range vs.length).map fun i => vs.sum * baseI vs m i).sum = ((List.range vs.length).map (baseI vs m)).sum * vs.sum := by
    rw [← sum_mulr]
    congr 1
    exact List.map_congr_left fun i _ => Int.mul_comm _ _
  have h1 := sum_nn (n := vs.length) (overI vs m) fun i _ => (over_ok hv i).1
  have h2 := sum_le (n := vs.length) (overI vs m) (vs.sum - 1) fun i _ => by have := (over_ok (m := m) hv i).2; omega
  have e3 : vs.sum * leftI vs m = ((List.range vs.length).map (overI vs m)).sum := by
    unfold leftI
    rw [Int.mul_sub, e, e2, Int.mul_comm vs.sum]
    omega
  constructor
  · apply Classical.byContradiction
    intro hn
    have : vs.sum * leftI vs m < 0 := Int.mul_neg_of_pos_of_neg hp (by omega)
    omega
  · apply Classical.byContradiction
    intro hn
    have h3 : vs.sum * (vs.length : Int) ≤ vs.sum * leftI vs m := Int.mul_le_mul_of_nonneg_left (by omega) (by omega)
    have h4 : (vs.length : Int) * (vs.sum - 1) = vs.sum * vs.length - vs.length := by rw [Int.mul_sub, Int.mul_comm]; simp
    have := hv.lo
    omega
end DL

/-! V7 (k54): seats by rests, the program's way. -/
namespace DL
open PySem PySem.Spec PyProof.Rows L2
def fL (vs : List Int) (m : Int) (P : Nat → Bool) : List Int := (List.range vs.length).map fun i => baseI vs m i + if P i = true then 1 else 0
def rL (vs : List Int) (m : Int) (P : Nat → Bool) : List Int := (List.range vs.length).map fun i => if P i = true then -1 else overI vs m i
theorem cnt_none {n : Nat} : cnt n (fun _ => false) = 0 := by
  unfold cnt
  rw [List.filter_eq_nil_iff.mpr (by simp)]
  rfl
theorem fL_sum {vs : List Int} {m : Int} {P : Nat → Bool} : (fL vs m P).sum = m - leftI vs m + cnt vs.length P := by
  unfold fL leftI
  rw [sum_add, sum_ite]
  omega
theorem restI_of {vs : List Int} {m : Int} {P : Nat → Bool} (hc : Closed vs m P) (h : (cnt vs.length P : Int) = leftI vs m) : fL vs m P = restI vs m := by
  unfold fL restI
  refine List.map_congr_left fun i hi => ?_
  have hi := List.mem_range.mp hi
  congr 1
  rw [closed_rank hc hi, ← h]
  by_cases hr : rankI vs m i < cnt vs.length P
  · rw [if_pos (by simpa using hr), if_pos (by omega)]
  · rw [if_neg (by simpa using hr), if_neg (by omega)]
theorem set_range {n b : Nat} {f : Nat → Int} {x : Int} (g : Nat → Int) (hg : ∀ i, i < n → i ≠ b → g i = f i) (hb : g b = x) : ((List.range n).map f).set b x = (List.range n).map g := by
  refine List.ext_getElem? fun i => ?_
  by_cases h : i < n
  · by_cases e : b = i
    · subst e
      rw [List.getElem?_set_self (by simpa using h), List.getElem?_map, List.getElem?_range h, ← hb]
      rfl
    · rw [List.getElem?_set_ne e, List.getElem?_map, List.getElem?_map, List.getElem?_range h]
      simp only [Option.map_some]
      rw [hg i h (fun z => e z.symm)]
  · rw [List.getElem?_eq_none (by rw [List.length_set, List.length_map, List.length_range]; omega), List.getElem?_eq_none (by rw [List.length_map, List.length_range]; omega)]
theorem first_ix {x : Int} : ∀ {ns : List Int}, x ∈ ns → ∃ j : Nat, ns[j]? = some x ∧ ∀ k : Nat, k < j → ns[k]? ≠ some x
  | [], h => by cases h
  | y :: ns, h => by
    by_cases e : y = x
    · exact ⟨0, by simp [e], fun k hk => absurd hk (by omega)⟩
    · have hm : x ∈ ns := by
        rcases List.mem_cons.mp h with z | z
        · exact absurd z.symm e
        · exact z
      obtain ⟨j, h1, h2⟩ := first_ix hm
      refine ⟨j + 1, by simpa using h1, fun k hk => ?_⟩
      cases k with
      | zero => simpa using e
      | succ k => simpa using h2 k (by omega)
/-- the next one that is picked -/
theorem pick_next {vs : List Int} {m : Int} {P : Nat → Bool} (hv : VOk vs) (hc : Closed vs m P) (h0 : cnt vs.length P < vs.length) {x : Int} (hx : x ∈ rL vs m P) (hmax : ∀ y ∈ rL vs m P, y ≤ x) {j : Nat} (hj : (rL vs m P)[j]? = some x) (hf : ∀ k, k < j → (rL vs m P)[k]? ≠ some x) :
    j < vs.length ∧ P j = false ∧ Closed vs m (fun i => P i || i == j) := by
  have at_ : ∀ i, i < vs.length → (rL vs m P)[i]? = some (if P i = true then -1 else overI vs m i) := fun i hi => by
    unfold rL
    rw [List.getElem?_map, List.getElem?_range hi]
    rfl
  have hjl : j < vs.length := by
    have := (List.getElem?_eq_some_iff.mp hj).1
    simpa [rL] using this
  obtain ⟨u, hu, hPu⟩ := cnt_all h0
  have un : ∀ i, i < vs.length → P i = false → overI vs m i ≤ x := fun i hi hp => by
    have := at_ i hi
    rw [if_neg (by rw [hp]; decide)] at this
    exact hmax _ (List.mem_of_getElem? this)
  have hx0 : 0 ≤ x := by
    have := un u hu hPu
    have := (over_ok (m := m) hv u).1
    omega
  have ej := at_ j hjl
  rw [hj] at ej
  have ej := Option.some.inj ej
  have hPj : P j = false := by
    cases hp : P j with
    | false => rfl
    | true =>
      rw [hp, if_pos rfl] at ej
      omega
  rw [if_neg (by rw [hPj]; decide)] at ej
  refine ⟨hjl, hPj, ⟨fun a b ha hb hpa hpb => ?_⟩⟩
  simp only [Bool.or_eq_true, beq_iff_eq] at hpa
  simp only [Bool.or_eq_false_iff, beq_eq_false_iff_ne] at hpb
  rcases hpa with hpa | rfl
  · exact hc.cl a b ha hb hpa hpb.1
  · have hle := un b hb hpb.1
    unfold befI
    rw [Bool.or_eq_true, Bool.and_eq_true, decide_eq_true_eq, decide_eq_true_eq, decide_eq_true_eq]
    by_cases he : overI vs m b = overI vs m a
    · right
      refine ⟨he.symm, ?_⟩
      have : ¬ b < a := fun hlt => by
        refine hf b hlt ?_
        rw [at_ b hb, if_neg (by rw [hpb.1]; decide), he, ej]
      have := hpb.2
      omega
    · left
      omega
theorem v_by_rests (J : GJ) (ds : List D) (q : D → Prop) (_ : ds.length = 2) (h : S_by_rests J ds q) : w_by_rests J (startE N_by_rests ds) (EndQ q) := by
  obtain ⟨vs, m, rfl, hv, h0, h1, hq⟩ := h
  have n0 := hv.lo; have n1 := hv.hi; have hp := hv.pos
  have hs : vs.sum ≤ 6000000000000 := by
    have := sum_le (n := vs.length) (fun i => vs.getD i 0) 1000000000000 fun i _ => (hv.at i).2
    rw [← sum_getD] at this
    have : (vs.length : Int) * 1000000000000 ≤ 6 * 1000000000000 := Int.mul_le_mul_of_nonneg_right (by omega) (by decide)
    omega
  obtain ⟨l0, l1⟩ := left_ok hv h0
  let env (P : Nat → Bool) (b : Sl) : En := [.val (tuI vs), .val (.int m), .val (.int vs.sum), .own ((fL vs m P).map D.int), .no, .own ((rL vs m P).map D.int), b]
  refine seq_step [.val (tuI vs), .val (.int m), .val (.int vs.sum), .no, .no, .no, .no] (fun E _ _ _ hE => ?_) ?_
  · simp [tuI]
    exact ⟨vs, rfl, hE⟩
  refine seq_step [.val (tuI vs), .val (.int m), .val (.int vs.sum), .own ((fL vs m fun _ => false).map D.int), .no, .no, .no] (fun E _ _ _ hE => ?_) ?_
  · simp [tuI]
    refine ⟨rfl, ?_⟩
    refine lc_map1 D.int (fun v => .int (v * m / vs.sum)) rfl vs (fun v hv' k hk => ?_) (small_sz (by omega)) ?_
    · simp
      exact ⟨cm (hv.nn v hv') (by have := hv.top v hv'; omega), ⟨hp, by omega⟩, hk⟩
    · have e : vs.map (fun v => D.int (v * m / vs.sum)) = (fL vs m fun _ => false).map D.int := by
        rw [map_getD (fun v => D.int (v * m / vs.sum))]
        unfold fL
        rw [List.map_map]
        exact List.map_congr_left fun i _ => by simp [baseI]
      rw [e]
      exact hE
  refine seq_step (env (fun _ => false) .no) (fun E _ _ _ hE => ?_) ?_
  · simp [tuI]
    refine ⟨rfl, ?_⟩
    refine lc_map1 D.int (fun v => .int (v * m % vs.sum)) rfl vs (fun v hv' k hk => ?_) (small_sz (by omega)) ?_
    · simp
      exact ⟨cm (hv.nn v hv') (by have := hv.top v hv'; omega), hp, hk⟩
    · have e : vs.map (fun v => D.int (v * m % vs.sum)) = (rL vs m fun _ => false).map D.int := by
        rw [map_getD (fun v => D.int (v * m % vs.sum))]
        unfold rL
        rw [List.map_map]
        exact List.map_congr_left fun i _ => by simp [overI]
      rw [e]
      exact hE
  refine seq_stepP (fun e => ∃ P b, fL vs m P = restI vs m ∧ e = env P b) (fun E _ _ _ hE => ?_) fun e he => ?_
  · refine ⟨fun k e => ∃ P b, e = env P b ∧ Closed vs m P ∧ (cnt vs.length P : Int) ≤ leftI vs m ∧ k = (leftI vs m - cnt vs.length P).toNat, ⟨_, fun _ => false, .no, rfl, ⟨fun i j _ _ h => by cases h⟩, by rw [cnt_none]; exact l0, rfl⟩, ?_⟩
    rintro k e ⟨P, b, rfl, hc, hle, rfl⟩
    have es := fL_sum (vs := vs) (m := m) (P := P)
    simp [env]
    refine ⟨fL vs m P, rfl, ?_⟩
    by_cases hlt : (cnt vs.length P : Int) < leftI vs m
    · have hcn : cnt vs.length P < vs.length := by omega
      refine .inr ⟨by omega, _, rfl, by simp [rL]; omega, fun x hx hmax => ?_⟩
      obtain ⟨j, hj, hf⟩ := first_ix hx
      obtain ⟨hjl, hPj, hc'⟩ := pick_next hv hc hcn hx hmax hj hf
      have ef : (fL vs m P).set j ((fL vs m P).getD j 0 + 1) = fL vs m (fun i => P i || i == j) := by
        have e1 : (fL vs m P).getD j 0 = baseI vs m j := by
          unfold fL
          rw [List.getD_eq_getElem?_getD, List.getElem?_map, List.getElem?_range hjl]
          simp [hPj]
        rw [e1]
        unfold fL
        refine set_range _ (fun i hi hne => ?_) ?_
        · have : (i == j) = false := by simpa using hne
          simp [this]
        · simp
      have er : (rL vs m P).set j (-1) = rL vs m (fun i => P i || i == j) := by
        unfold rL
        refine set_range _ (fun i hi hne => ?_) ?_
        · have : (i == j) = false := by simpa using hne
          simp [this]
        · simp
      have hc2 := cnt_add hjl hPj
      have fl : (fL vs m P).length = vs.length := by simp [fL]
      have rl : (rL vs m P).length = vs.length := by simp [rL]
      refine ⟨_, rfl, j, hj, hf, _, at_ints (by omega), _, ixN_at (by omega), _, ixN_at (by omega), (leftI vs m).toNat - cnt vs.length (fun i => P i || i == j), by omega, fun i => P i || i == j, ⟨?_, ?_⟩, hc', by omega, rfl⟩
      · rw [← ef, List.map_set]
      · rw [← er, List.map_set]
    · exact .inl ⟨by omega, hE _ ⟨P, b, restI_of hc (by omega), rfl⟩⟩
  · obtain ⟨P, b, hP, rfl⟩ := he
    simp [env, hP]
    exact hq
end DL

/-! V10 (k54): who is ahead, as an order. -/
namespace DL
open PySem PySem.Spec PyProof.Rows L2
structure Nr (u : Int × Int) : Prop where
  a : 0 ≤ u.1
  b : 0 ≤ u.2
  c : u.2 = 0 → 0 < u.1
theorem nrm_ok {x : Int × Int} (h : 0 ≤ x.2) : Nr (nrm x) := by
  unfold nrm
  split
  · exact ⟨by omega, h, fun _ => by assumption⟩
  · exact ⟨by decide, by decide, fun h => by cases h⟩
def cmpB (u v : Int × Int) : Bool := if u.2 = 0 ∧ v.2 = 0 then decide (u.1 > v.1) else if u.2 = 0 ∨ v.2 = 0 then decide (u.2 = 0) else decide (u.1 * v.2 > v.1 * u.2)
theorem ahead_cmp (x y : Int × Int) : aheadB x y = cmpB (nrm x) (nrm y) := rfl
theorem mul_chain {u1 u2 v1 v2 w1 w2 : Int} (hv : 0 < v2) (hw : 0 < w2) (hu : 0 < u2) (h1 : v1 * u2 < u1 * v2) (h2 : w1 * v2 ≤ v1 * w2) : w1 * u2 < u1 * w2 := by
  have a1 : v1 * u2 * w2 < u1 * v2 * w2 := Int.mul_lt_mul_of_pos_right h1 hw
  have a2 : w1 * v2 * u2 ≤ v1 * w2 * u2 := Int.mul_le_mul_of_nonneg_right h2 (by omega)
  have e1 : v1 * u2 * w2 = v1 * w2 * u2 := by rw [Int.mul_assoc, Int.mul_comm u2 w2, ← Int.mul_assoc]
  have e2 : w1 * v2 * u2 = w1 * u2 * v2 := by rw [Int.mul_assoc, Int.mul_comm v2 u2, ← Int.mul_assoc]
  have e3 : u1 * v2 * w2 = u1 * w2 * v2 := by rw [Int.mul_assoc, Int.mul_comm v2 w2, ← Int.mul_assoc]
  have a3 : w1 * u2 * v2 < u1 * w2 * v2 := by omega
  exact Int.lt_of_mul_lt_mul_right a3 (by omega)
theorem cmp_neg {u v w : Int × Int} (hu : Nr u) (hv : Nr v) (hw : Nr w) (h1 : cmpB u v = true) (h2 : cmpB w v = false) : cmpB u w = true := by
  unfold cmpB at h1 h2 ⊢
  have a1 := hu.b; have a2 := hv.b; have a3 := hw.b
  by_cases v0 : v.2 = 0
  · by_cases u0 : u.2 = 0
    · by_cases w0 : w.2 = 0
      · simp [v0, u0, w0] at h1 h2 ⊢
        omega
      · simp [u0, w0]
    · simp [v0, u0] at h1
  · by_cases u0 : u.2 = 0
    · by_cases w0 : w.2 = 0
      · simp [v0, w0] at h2
      · simp [u0, w0]
    · by_cases w0 : w.2 = 0
      · simp [v0, w0] at h2
      · simp [v0, u0, w0] at h1 h2 ⊢
        exact mul_chain (by omega) (by omega) (by omega) h1 h2
theorem cmp_asym {u v : Int × Int} (h1 : cmpB u v = true) : cmpB v u = false := by
  unfold cmpB at h1 ⊢
  by_cases v0 : v.2 = 0
  · by_cases u0 : u.2 = 0
    · simp [v0, u0] at h1 ⊢
      omega
    · simp [v0, u0] at h1
  · by_cases u0 : u.2 = 0
    · simp [v0, u0]
    · simp [v0, u0] at h1 ⊢
      omega
theorem ahead_neg {x y z : Int × Int} (hx : 0 ≤ x.2) (hy : 0 ≤ y.2) (hz : 0 ≤ z.2) (h1 : aheadB x y = true) (h2 : aheadB z y = false) : aheadB x z = true := by
  rw [ahead_cmp] at h1 h2 ⊢
  exact cmp_neg (nrm_ok hx) (nrm_ok hy) (nrm_ok hz) h1 h2
theorem ahead_asym {x y : Int × Int} (h1 : aheadB x y = true) : aheadB y x = false := by
  rw [ahead_cmp] at h1 ⊢
  exact cmp_asym h1
theorem ahead_self (x : Int × Int) : aheadB x x = false := by
  cases h : aheadB x x with
  | false => rfl
  | true => exact (ahead_asym h).symm.trans h |>.symm ▸ rfl
theorem ahead_below {x y : Int × Int} (hx : 0 ≤ x.1) (hx2 : 0 < x.2) (hy : 0 ≤ y.1) (hy2 : 0 < y.2) : aheadB x y = belowB y x := by
  rw [ahead_cmp]
  unfold cmpB belowB nrm
  by_cases h1 : x.1 > 0
  · rw [if_pos h1]
    by_cases h2 : y.1 > 0
    · rw [if_pos h2, if_neg (by omega), if_neg (by omega)]
    · rw [if_neg h2, if_neg (by simp), if_neg (by simp; omega)]
      have e : y.1 = 0 := by omega
      rw [e]
      have : 0 < x.1 * y.2 := Int.mul_pos h1 hy2
      simp
      omega
  · rw [if_neg h1]
    have e : x.1 = 0 := by omega
    by_cases h2 : y.1 > 0
    · rw [if_pos h2, if_neg (by simp), if_neg (by simp; omega), e]
      have : 0 < y.1 * x.2 := Int.mul_pos h2 hx2
      simp
      omega
    · rw [if_neg h2, if_neg (by simp), if_neg (by simp)]
      have e2 : y.1 = 0 := by omega
      rw [e, e2]
      simp
theorem key2 {r : Str} {vs ts : List Int} (ht : TOk vs ts) (i : Nat) : 0 ≤ (keyI r vs ts i).2 ∧ (keyI r vs ts i).2 ≤ 2001 := step_ok r (ht.at i).1 (ht.at i).2
/-- it is the first of those ahead of all -/
theorem next_fold {r : Str} {vs ts : List Int} (ht : TOk vs ts) : ∀ j : Nat, (∀ i, i < j → aheadB (keyI r vs ts i) (keyI r vs ts ((List.range j).foldl (fun b i => if aheadB (keyI r vs ts i) (keyI r vs ts b) then i else b) 0)) = false) ∧
    ∀ i, i < (List.range j).foldl (fun b i => if aheadB (keyI r vs ts i) (keyI r vs ts b) then i else b) 0 → aheadB (keyI r vs ts ((List.range j).foldl (fun b i => if aheadB (keyI r vs ts i) (keyI r vs ts b) then i else b) 0)) (keyI r vs ts i) = true
  | 0 => ⟨fun i h => absurd h (by omega), fun i h => absurd h (by simp)⟩
  | j + 1 => by
    obtain ⟨h1, h2⟩ := next_fold (r := r) ht j
    rw [List.range_succ, List.foldl_append]
    generalize (List.range j).foldl (fun b i => if aheadB (keyI r vs ts i) (keyI r vs ts b) then i else b) 0 = b at h1 h2
    simp only [List.foldl_cons, List.foldl_nil]
    cases ha : aheadB (keyI r vs ts j) (keyI r vs ts b) with
    | true =>
      rw [if_pos rfl]
      have h3 : ∀ i, i < j → aheadB (keyI r vs ts j) (keyI r vs ts i) = true := fun i hi => ahead_neg (key2 ht j).1 (key2 ht b).1 (key2 ht i).1 ha (h1 i hi)
      refine ⟨fun i hi => ?_, h3⟩
      by_cases e : i = j
      · rw [e]
        exact ahead_self _
      · exact ahead_asym (h3 i (by omega))
    | false =>
      rw [if_neg (by simp)]
      refine ⟨fun i hi => ?_, h2⟩
      by_cases e : i = j
      · rw [e]
        exact ha
      · exact h1 i (by omega)
theorem next_uniq {r : Str} {vs ts : List Int} (ht : TOk vs ts) {b : Nat} (hb : b < vs.length) (h1 : ∀ i, i < vs.length → aheadB (keyI r vs ts i) (keyI r vs ts b) = false) (h2 : ∀ i, i < b → aheadB (keyI r vs ts b) (keyI r vs ts i) = true) : nextI r vs ts = b := by
  obtain ⟨g1, g2⟩ := next_fold (r := r) ht vs.length
  have hn := nextI_lt (r := r) (vs := vs) (ts := ts) (by omega)
  have g1 : ∀ i, i < vs.length → aheadB (keyI r vs ts i) (keyI r vs ts (nextI r vs ts)) = false := g1
  have g2 : ∀ i, i < nextI r vs ts → aheadB (keyI r vs ts (nextI r vs ts)) (keyI r vs ts i) = true := g2
  rcases Nat.lt_trichotomy (nextI r vs ts) b with h | h | h
  · have := h2 _ h
    rw [g1 b hb] at this
    cases this
  · exact h
  · have := g2 _ h
    rw [h1 _ hn] at this
    cases this
theorem next_max {r : Str} {vs ts : List Int} (ht : TOk vs ts) (i : Nat) (hi : i < vs.length) : aheadB (keyI r vs ts i) (keyI r vs ts (nextI r vs ts)) = false := (next_fold (r := r) ht vs.length).1 i hi

/-! ### comprehensions with any target -/
theorem lc_gen {α : Type} {vs : List Nat} {g : WG} {tt : WT} {te : WE} {fin : List D → En → Prop} {e : En} (f y : α → D) (p : α → Bool) (e' : α → En) (hw : ∀ x, wipeE (e' x) vs = e) :
    ∀ (xs : List α) (acc : List D), (∀ x ∈ xs, ∀ k : En → Prop, k (e' x) → g (f x) e k) → (∀ x ∈ xs, ∀ k : Bool → En → Prop, k (p x) (e' x) → tt (e' x) k) →
    (∀ x ∈ xs, p x = true → ∀ k : D → En → Prop, k (y x) (e' x) → te (e' x) k) → acc.length + xs.length ≤ sizeLine → fin (acc ++ (xs.filter p).map y) e → lcGo vs g tt te fin (xs.map f) acc e
  | [], acc, _, _, _, _, hf => by simpa [lcGo] using hf
  | x :: xs, acc, hg, ht, hy, hl, hf => by
    simp only [List.length_cons] at hl
    simp only [List.map_cons, lcGo]
    refine hg x List.mem_cons_self _ (ht x List.mem_cons_self _ ?_)
    cases hp : p x with
    | true =>
      rw [if_pos rfl]
      refine hy x List.mem_cons_self hp _ ⟨by omega, ?_⟩
      rw [hw]
      refine lc_gen f y p e' hw xs _ (fun z hz => hg z (List.mem_cons_of_mem _ hz)) (fun z hz => ht z (List.mem_cons_of_mem _ hz)) (fun z hz => hy z (List.mem_cons_of_mem _ hz)) (by simp; omega) ?_
      simpa [List.filter_cons, hp] using hf
    | false =>
      rw [if_neg (by simp)]
      rw [hw]
      refine lc_gen f y p e' hw xs _ (fun z hz => hg z (List.mem_cons_of_mem _ hz)) (fun z hz => ht z (List.mem_cons_of_mem _ hz)) (fun z hz => hy z (List.mem_cons_of_mem _ hz)) (by omega) ?_
      simpa [List.filter_cons, hp] using hf
theorem enD_from (g : Int → D) : ∀ (vs : List Int) (j : Nat), enD j (vs.map g) = (List.range vs.length).map fun i => .tup [.int ((j + i : Nat) : Int), g (vs.getD i 0)] := by
  intro vs j
  refine List.ext_getElem? fun i => ?_
  rw [enD_get, List.getElem?_map, List.getElem?_map]
  by_cases h : i < vs.length
  · rw [List.getElem?_range h, List.getElem?_eq_getElem h]
    simp [List.getD_eq_getElem?_getD, List.getElem?_eq_getElem h]
  · rw [List.getElem?_eq_none (by omega), List.getElem?_eq_none (by simp; omega)]
    rfl
theorem enD_ints (vs : List Int) : enD 0 (vs.map D.int) = (List.range vs.length).map fun i => .tup [.int (i : Nat), .int (vs.getD i 0)] := by
  rw [enD_from]
  exact List.map_congr_left fun i _ => by rw [Nat.zero_add]
theorem zipD_ints : ∀ vs ts : List Int, zipD (vs.map D.int) (ts.map D.int) = (vs.zip ts).map pairD
  | [], _ => rfl
  | _ :: _, [] => rfl
  | v :: vs, t :: ts => by
    simp [zipD_ints vs ts]
end DL

/-! V11 (k54): the law's next one. -/
namespace DL
open PySem PySem.Spec PyProof.Rows L2
def elig (r : Str) (vs ts : List Int) (i : Nat) : Prop := 0 < (keyI r vs ts i).2
structure BestAt (r : Str) (vs ts : List Int) (j b : Nat) : Prop where
  lt : b < j
  el : elig r vs ts b
  mx : ∀ i, i < j → elig r vs ts i → aheadB (keyI r vs ts i) (keyI r vs ts b) = false
  fs : ∀ i, i < b → elig r vs ts i → aheadB (keyI r vs ts b) (keyI r vs ts i) = true
theorem below_key {r : Str} {vs ts : List Int} (hv : VOk vs) {i b : Nat} (hi : elig r vs ts i) (hb : elig r vs ts b) : belowB (keyI r vs ts b) (keyI r vs ts i) = aheadB (keyI r vs ts i) (keyI r vs ts b) :=
  (ahead_below (hv.at i).1 hi (hv.at b).1 hb).symm
/-- the best of all that can be asked is the next one -/
theorem best_next {r : Str} {vs ts : List Int} (hv : VOk vs) (ht : TOk vs ts) {b : Nat} (h : BestAt r vs ts vs.length b) (hz : ∀ i, i < vs.length → ¬ elig r vs ts i → vs.getD i 0 = 0) : nextI r vs ts = b := by
  have hex : ∃ i, i < vs.length ∧ 0 < vs.getD i 0 := by
    apply Classical.byContradiction
    intro hn
    have := sum_le (n := vs.length) (fun i => vs.getD i 0) 0 fun i hi => by
      apply Classical.byContradiction
      intro h0
      exact hn ⟨i, hi, by omega⟩
    rw [← sum_getD] at this
    have := hv.pos
    simp at *
    omega
  obtain ⟨i0, hi0, hp0⟩ := hex
  have el0 : elig r vs ts i0 := by
    apply Classical.byContradiction
    intro hn
    have := hz i0 hi0 hn
    omega
  have hvb : 0 < vs.getD b 0 := by
    have h1 := h.mx i0 hi0 el0
    rw [ahead_below (hv.at i0).1 el0 (hv.at b).1 h.el] at h1
    have h2 : 0 ≤ vs.getD b 0 := (hv.at b).1
    apply Classical.byContradiction
    intro hn
    have e : vs.getD b 0 = 0 := by omega
    unfold belowB at h1
    have h1 := of_decide_eq_false h1
    have h3 : (keyI r vs ts b).1 = 0 := e
    have h4 : (keyI r vs ts i0).1 = vs.getD i0 0 := rfl
    rw [h3, h4, Int.zero_mul] at h1
    have := Int.mul_pos hp0 h.el
    omega
  have nb : nrm (keyI r vs ts b) = keyI r vs ts b := if_pos hvb
  have n0 : ∀ i, vs.getD i 0 = 0 → nrm (keyI r vs ts i) = (0, 1) := fun i e => if_neg (by show ¬ vs.getD i 0 > 0; omega)
  have hkb : (keyI r vs ts b).2 ≠ 0 := by have := h.el; unfold elig at this; omega
  refine next_uniq ht h.lt (fun i hi => ?_) fun i hi => ?_
  · by_cases he : elig r vs ts i
    · exact h.mx i hi he
    · rw [ahead_cmp, n0 i (hz i hi he), nb]
      unfold cmpB
      rw [if_neg (by simp), if_neg (by simp [hkb])]
      have : 0 < (keyI r vs ts b).1 := hvb
      simp [-List.getD_eq_getElem?_getD]
      omega
  · by_cases he : elig r vs ts i
    · exact h.fs i hi he
    · have hl := h.lt
      rw [ahead_cmp, n0 i (hz i (by omega) he), nb]
      unfold cmpB
      rw [if_neg (by simp), if_neg (by simp [hkb])]
      have : 0 < (keyI r vs ts b).1 := hvb
      simp [-List.getD_eq_getElem?_getD]
      omega
theorem best_step {r : Str} {vs ts : List Int} (ht : TOk vs ts) {j b : Nat} (h : BestAt r vs ts j b) (he : elig r vs ts j) (ha : aheadB (keyI r vs ts j) (keyI r vs ts b) = true) : BestAt r vs ts (j + 1) j := by
  have h3 : ∀ i, i < j → elig r vs ts i → aheadB (keyI r vs ts j) (keyI r vs ts i) = true := fun i hi hei => ahead_neg (key2 ht j).1 (key2 ht b).1 (key2 ht i).1 ha (h.mx i hi hei)
  refine ⟨by omega, he, fun i hi hei => ?_, h3⟩
  by_cases e : i = j
  · rw [e]
    exact ahead_self _
  · exact ahead_asym (h3 i (by omega) hei)
theorem best_keep {r : Str} {vs ts : List Int} {j b : Nat} (h : BestAt r vs ts j b) (ha : elig r vs ts j → aheadB (keyI r vs ts j) (keyI r vs ts b) = false) : BestAt r vs ts (j + 1) b := by
  refine ⟨by have := h.lt; omega, h.el, fun i hi hei => ?_, h.fs⟩
  by_cases e : i = j
  · subst e
    exact ha hei
  · exact h.mx i (by omega) hei
theorem best_first {r : Str} {vs ts : List Int} {j : Nat} (h : ∀ i, i < j → ¬ elig r vs ts i) (he : elig r vs ts j) : BestAt r vs ts (j + 1) j := by
  refine ⟨by omega, he, fun i hi hei => ?_, fun i hi hei => absurd hei (h i hi)⟩
  by_cases e : i = j
  · rw [e]
    exact ahead_self _
  · exact absurd hei (h i (by omega))
theorem ask_look {r : Str} (hr : r ∈ [r1, r2, r3]) (t : Int) : dLook [((.inr r1 : Key), D.int (t + 1)), (.inr r2, .int (2 * t + 1)), (.inr r3, .int t)] (.inr r) = some (.int (stepI r t)) := by
  simp only [List.mem_cons, List.not_mem_nil, or_false] at hr
  rcases hr with rfl | rfl | rfl
  · rfl
  · rfl
  · rfl
/-- the loop through all -/
theorem loop_next (J : GJ) {E : DEnds} {r : Str} {vs ts : List Int} (hr : r ∈ [r1, r2, r3]) (hv : VOk vs) (ht : TOk vs ts) (s3 s4 s5 s7 : Sl)
    (hE : ∀ s4 s5 s7 best, ((best = .non ∧ ∀ i, i < vs.length → ¬ elig r vs ts i) ∨ ∃ b, best = .tup [.int (b : Nat), pairD (keyI r vs ts b)] ∧ BestAt r vs ts vs.length b) → E.nx [.val (tuI vs), .val (liI ts), .val (.str r), s3, s4, s5, .val best, s7]) :
    forGo (gTup 2 (gCons (gN 4) (gCons (gN 5) gNil))) (sSeq (sSet 7 (wVal (wAsk [("first", (w2 oAdd (wOf (w2 oIx (wB 1) (wB 4))) (wOf (wC (.int 1))))), ("middle", (w2 oAdd (wOf (w2 oMulA (wOf (wC (.int 2))) (wOf (w2 oIx (wB 1) (wB 4))))) (wOf (wC (.int 1))))), ("up", (w2 oIx (wB 1) (wB 4)))] (wVar 2)))) (sIf (wTAnd (wTB (w2 oGt (wB 7) (wOf (wC (.int 0))))) (wTOr (wTB (wIsN (wVar 6))) (wTB (wCall J S__law_below 2 (wCons (wOf (w2 oIx (wB 6) (wOf (wC (.int 1))))) (wCons (wOf (wTup (wCons (wOf (wVar 5)) (wCons (wOf (wVar 7)) wNil)))) wNil)))))) (sSet 6 (wVal (wTup (wCons (wOf (wVar 4)) (wCons (wOf (wTup (wCons (wOf (wVar 5)) (wCons (wOf (wVar 7)) wNil)))) wNil))))) sNil)) E
      (enD 0 (vs.map D.int)) [.val (tuI vs), .val (liI ts), .val (.str r), s3, s4, s5, .val .non, s7] := by
  rw [enD_ints]
  refine for_ind (α := Nat) _ (fun xs e => ∃ j s4 s5 s7 best, xs = List.range' j (vs.length - j) ∧ j ≤ vs.length ∧ e = [.val (tuI vs), .val (liI ts), .val (.str r), s3, s4, s5, .val best, s7] ∧
    ((best = .non ∧ ∀ i, i < j → ¬ elig r vs ts i) ∨ ∃ b, best = .tup [.int (b : Nat), pairD (keyI r vs ts b)] ∧ BestAt r vs ts j b)) (fun e h => ?_) (fun x xs e h R hR => ?_) _ _ ⟨0, s4, s5, s7, .non, List.range_eq_range', Nat.zero_le _, rfl, .inl ⟨rfl, fun i h => absurd h (by omega)⟩⟩
  · obtain ⟨j, s4, s5, s7, best, e1, e2, rfl, hb⟩ := h
    have hk : vs.length - j = 0 := by
      have := congrArg List.length e1
      simpa using this.symm
    have : j = vs.length := by omega
    subst this
    exact hE _ _ _ _ hb
  · obtain ⟨j, s4, s5, s7, best, e1, e2, rfl, hb⟩ := h
    have hk : vs.length - j = (vs.length - (j + 1)) + 1 := by
      have := congrArg List.length e1
      simp at this
      omega
    rw [hk, List.range'_succ] at e1
    obtain ⟨rfl, rfl⟩ := List.cons.inj e1
    have hx : x < vs.length := by omega
    have hl := ht.len
    have tx := ht.at x
    have vx := hv.at x
    have k2 := key2 (r := r) ht x
    have i1 := at_ints (vs := ts) (i := x) (by omega)
    simp only [gTup, gCons, gN, gNil]
    refine ⟨_, rfl, rfl, _, _, rfl, _, _, rfl, rfl, ?_⟩
    refine seq_step [.val (tuI vs), .val (liI ts), .val (.str r), s3, .val (.int (x : Nat)), .val (.int (vs.getD x 0)), .val best, .val (.int (keyI r vs ts x).2)] (fun E' _ _ _ hE' => ?_) ?_
    · simp [liI, -List.getD_eq_getElem?_getD]
      refine ⟨_, i1, _, i1, cm (by decide) (by decide), _, i1, _, ask_look hr _, hE'⟩
    simp [-List.getD_eq_getElem?_getD]
    by_cases he : 0 < (keyI r vs ts x).2
    · refine .inr ⟨he, ?_⟩
      have upd : ∀ b', BestAt r vs ts (x + 1) b' → b' = x → R [.val (tuI vs), .val (liI ts), .val (.str r), s3, .val (.int (x : Nat)), .val (.int (vs.getD x 0)), .val (.tup [.int (x : Nat), .tup [.int (vs.getD x 0), .int (keyI r vs ts x).2]]), .val (.int (keyI r vs ts x).2)] := fun b' h e => by
        subst e
        exact hR _ ⟨_, _, _, _, _, rfl, by omega, rfl, .inr ⟨_, rfl, h⟩⟩
      rcases hb with ⟨rfl, hno⟩ | ⟨b, rfl, hB⟩
      · simp [-List.getD_eq_getElem?_getD]
        exact upd x (best_first hno he) rfl
      · simp [-List.getD_eq_getElem?_getD]
        have kb := key2 (r := r) ht b
        have vb := hv.at b
        have eb := hB.el
        refine ⟨_, atI_nat (j := 1) rfl, keyI r vs ts b, keyI r vs ts x, rfl, ⟨vb.1, by show vs.getD b 0 ≤ _; omega, eb, by show (keyI r vs ts b).2 ≤ _; omega⟩, ⟨vx.1, by show vs.getD x 0 ≤ _; omega, he, by show (keyI r vs ts x).2 ≤ _; omega⟩, ?_⟩
        rw [below_key hv he eb]
        cases ha : aheadB (keyI r vs ts x) (keyI r vs ts b) with
        | true =>
          simp [-List.getD_eq_getElem?_getD]
          exact upd x (best_step ht hB he ha) rfl
        | false =>
          simp [-List.getD_eq_getElem?_getD]
          exact hR _ ⟨_, _, _, _, _, rfl, by omega, rfl, .inr ⟨_, rfl, best_keep hB fun _ => ha⟩⟩
    · refine .inl ⟨by omega, hR _ ⟨_, _, _, _, _, rfl, by omega, rfl, ?_⟩⟩
      rcases hb with ⟨rfl, hno⟩ | ⟨b, rfl, hB⟩
      · refine .inl ⟨rfl, fun i hi hei => ?_⟩
        by_cases e : i = x
        · subst e
          exact he hei
        · exact hno i (by omega) hei
      · exact .inr ⟨_, rfl, best_keep hB fun h => absurd h he⟩
end DL

/-! V12 (k54): the law's next one, whole. -/
namespace DL
open PySem PySem.Spec PyProof.Rows L2
theorem okEA_pairs : ∀ ps : List (Int × Int), okEA 59 (ps.map pairD) = true
  | [] => rfl
  | p :: ps => by
    have := okEA_pairs ps
    simp [okEA, okE] at this ⊢
    exact this
theorem v__law_next (J : GJ) (ds : List D) (q : D → Prop) (_ : ds.length = 3) (h : S__law_next J ds q) : w__law_next J (startE N__law_next ds) (EndQ q) := by
  obtain ⟨r, vs, ts, rfl, hr, hv, ht, hq⟩ := h
  have n0 := hv.lo; have n1 := hv.hi
  have hl := ht.len
  let p : Nat → Bool := fun i => decide (0 < vs.getD i 0) && decide (ts.getD i 0 = 0)
  let S : List Nat := (List.range vs.length).filter p
  have mem : ∀ i, i ∈ S ↔ i < vs.length ∧ 0 < vs.getD i 0 ∧ ts.getD i 0 = 0 := fun i => by
    show i ∈ (List.range vs.length).filter p ↔ _
    rw [List.mem_filter, List.mem_range]
    show _ ∧ (decide (0 < vs.getD i 0) && decide (ts.getD i 0 = 0)) = true ↔ _
    rw [Bool.and_eq_true, decide_eq_true_eq, decide_eq_true_eq]
  refine seq_stepP (fun e => ∃ s3, e = [.val (tuI vs), .val (liI ts), .val (.str r), s3, .no, .no, .no, .no] ∧ (r = r3 → S = [])) (fun E hrt _ _ hE => ?_) fun e he => ?_
  · simp [okE, eqD, tuI, -enD]
    by_cases h3 : r = r3
    · refine .inr ⟨h3, rfl, ?_⟩
      have hk : ∀ i, keyI r vs ts i = (vs.getD i 0, ts.getD i 0) := fun i => by
        subst h3
        rfl
      rw [show enD 0 (vs.map D.int) = (List.range vs.length).map fun i => D.tup [.int (i : Nat), .int (vs.getD i 0)] from enD_ints vs]
      refine lc_gen (α := Nat) _ (fun i => pairD (-(vs.getD i 0), ((i : Nat) : Int))) p (fun i => [.val (tuI vs), .val (liI ts), .val (.str r), .no, .val (.int (i : Nat)), .val (.int (vs.getD i 0)), .no, .no]) (fun i => rfl) _ _ (fun i hi k hk => ?_) (fun i hi k hk => ?_) (fun i hi hp k hk => ?_) (by simp; exact small_sz (by omega)) ?_
      · exact ⟨_, rfl, rfl, _, _, rfl, _, _, rfl, rfl, hk⟩
      · have hi := List.mem_range.mp hi
        have hk2 : k (decide (0 < vs.getD i 0) && decide (ts.getD i 0 = 0)) [.val (tuI vs), .val (liI ts), .val (.str r), .no, .val (.int (i : Nat)), .val (.int (vs.getD i 0)), .no, .no] := hk
        simp [-List.getD_eq_getElem?_getD, liI]
        by_cases h1 : 0 < vs.getD i 0
        · refine .inr ⟨h1, _, at_ints (by omega), rfl, ?_⟩
          by_cases h2 : ts.getD i 0 = 0
          · rw [decide_eq_true h1, decide_eq_true h2] at hk2
            exact .inr ⟨by simp [eqD, -List.getD_eq_getElem?_getD, h2], hk2⟩
          · rw [decide_eq_true h1, decide_eq_false h2] at hk2
            exact .inl ⟨by simp [eqD, -List.getD_eq_getElem?_getD, h2], hk2⟩
        · rw [decide_eq_false h1, Bool.false_and] at hk2
          exact .inl ⟨by omega, hk2⟩
      · simp [-List.getD_eq_getElem?_getD]
        exact hk
      · have eL : ((List.range vs.length).filter p).map (fun i => pairD (-(vs.getD i 0), ((i : Nat) : Int))) = (S.map fun i => (-(vs.getD i 0), ((i : Nat) : Int))).map pairD := by
          rw [List.map_map]
          rfl
        rw [List.nil_append, eL]
        have mem2 : ∀ a b : Int, (a, b) ∈ (S.map fun i => (-(vs.getD i 0), ((i : Nat) : Int))) → ∃ i ∈ S, a = -(vs.getD i 0) ∧ b = (i : Nat) := fun a b h => by
          obtain ⟨i, hi, e⟩ := List.mem_map.mp h
          injection e with e1 e2
          exact ⟨i, hi, e1.symm, e2.symm⟩
        have mem3 : ∀ i ∈ S, (-(vs.getD i 0), ((i : Nat) : Int)) ∈ (S.map fun i => (-(vs.getD i 0), ((i : Nat) : Int))) := fun i hi => List.mem_map.mpr ⟨i, hi, rfl⟩
        have hnil : (S.map fun i => (-(vs.getD i 0), ((i : Nat) : Int))) = [] → S = [] := fun h => by simpa using h
        generalize (S.map fun i => (-(vs.getD i 0), ((i : Nat) : Int))) = ps at mem2 mem3 hnil
        have ok := okEA_pairs ps
        cases ps with
        | nil =>
          simp
          exact hE _ ⟨_, rfl, fun _ => hnil rfl⟩
        | cons p0 ps =>
          simp [-List.map_cons, okE, ok]
          refine .inr ⟨p0 :: ps, rfl, by simp, fun a b hm hle => ⟨_, atI_nat (j := 1) rfl, ?_⟩⟩
          rw [hrt]
          obtain ⟨i, hi, rfl, rfl⟩ := mem2 a b hm
          obtain ⟨i1, i2, i3⟩ := (mem i).mp hi
          have ni : nrm (keyI r vs ts i) = (vs.getD i 0, 0) := by
            rw [hk, i3]
            exact if_pos i2
          have nj : ∀ j, j < vs.length → (nrm (keyI r vs ts j)).2 = 0 → j ∈ S ∧ nrm (keyI r vs ts j) = (vs.getD j 0, 0) := fun j hj h0 => by
            rw [hk] at h0 ⊢
            unfold nrm at h0 ⊢
            by_cases hp : vs.getD j 0 > 0
            · rw [if_pos hp] at h0 ⊢
              have h0 : ts.getD j 0 = 0 := h0
              exact ⟨(mem j).mpr ⟨hj, hp, h0⟩, by rw [h0]⟩
            · rw [if_neg hp] at h0
              cases h0
          have : nextI r vs ts = i := by
            refine next_uniq ht i1 (fun j hj => ?_) fun j hj => ?_
            · rw [ahead_cmp, ni]
              unfold cmpB
              by_cases h0 : (nrm (keyI r vs ts j)).2 = 0
              · obtain ⟨hjS, e⟩ := nj j hj h0
                have := hle _ _ (mem3 j hjS)
                unfold lexLe at this
                simp only at this
                rw [e, if_pos ⟨rfl, rfl⟩]
                exact decide_eq_false (by simp only; omega)
              · rw [if_neg (fun z => h0 z.1), if_pos (.inr rfl)]
                exact decide_eq_false h0
            · rw [ahead_cmp, ni]
              unfold cmpB
              by_cases h0 : (nrm (keyI r vs ts j)).2 = 0
              · obtain ⟨hjS, e⟩ := nj j (by omega) h0
                have := hle _ _ (mem3 j hjS)
                unfold lexLe at this
                simp only at this
                rw [e, if_pos ⟨rfl, rfl⟩]
                exact decide_eq_true (by simp only; omega)
              · rw [if_neg (fun z => h0 z.2), if_pos (.inl rfl)]
                exact decide_eq_true rfl
          rw [this] at hq
          exact hq
    · exact .inl ⟨h3, hE _ ⟨.no, rfl, fun h => absurd h h3⟩⟩
  · obtain ⟨s3, rfl, hS⟩ := he
    refine seq_step [.val (tuI vs), .val (liI ts), .val (.str r), s3, .no, .no, .val .non, .no] (fun E _ _ _ hE => ?_) ?_
    · simpa using hE
    have hz : ∀ i, i < vs.length → ¬ elig r vs ts i → vs.getD i 0 = 0 := fun i hi hne => by
      have t0 := (ht.at i).1
      have v0 := (hv.at i).1
      unfold elig keyI stepI at hne
      simp only at hne
      by_cases e1 : r = r1
      · rw [if_pos e1] at hne
        omega
      · rw [if_neg e1] at hne
        by_cases e2 : r = r2
        · rw [if_pos e2] at hne
          omega
        · rw [if_neg e2] at hne
          have e3 : r = r3 := by
            simp only [List.mem_cons, List.not_mem_nil, or_false] at hr
            rcases hr with h | h | h
            · exact absurd h e1
            · exact absurd h e2
            · exact h
          have hn : i ∉ S := by
            rw [hS e3]
            simp
          apply Classical.byContradiction
          intro hc
          exact hn ((mem i).mpr ⟨hi, by omega, by omega⟩)
    refine seq_stepP (fun e => ∃ s4 s5 s7 b, e = [.val (tuI vs), .val (liI ts), .val (.str r), s3, s4, s5, .val (.tup [.int (b : Nat), pairD (keyI r vs ts b)]), s7] ∧ nextI r vs ts = b) (fun E _ _ _ hE => ?_) fun e he => ?_
    · simp only [sFor, wEn]
      simp [-enD, tuI]
      refine loop_next J hr hv ht s3 .no .no .no fun s4 s5 s7 best hb => ?_
      rcases hb with ⟨rfl, hno⟩ | ⟨b, rfl, hB⟩
      · have := hz
        exfalso
        have hs := sum_le (n := vs.length) (fun i => vs.getD i 0) 0 fun i hi => by
          rw [hz i hi (hno i hi)]
          decide
        rw [← sum_getD] at hs
        have := hv.pos
        simp at hs
        omega
      · exact hE _ ⟨s4, s5, s7, b, rfl, best_next hv ht hB hz⟩
    · obtain ⟨s4, s5, s7, b, rfl, hb⟩ := he
      simp
      refine ⟨_, atI_nat (j := 0) rfl, ?_⟩
      rw [← hb]
      exact hq
end DL

/-! V13 (k54): the law's seats. -/
namespace DL
open PySem PySem.Spec PyProof.Rows L2
theorem bump_map {vs ts : List Int} (hl : ts.length = vs.length) {b : Nat} (hb : b < vs.length) : bump ts b = (List.range ts.length).map fun i => ts.getD i 0 + if i = b then 1 else 0 := by
  unfold bump
  have e : ts = (List.range ts.length).map fun i => ts.getD i 0 := by
    have := map_getD (fun x => x) ts
    rwa [List.map_id'] at this
  have h2 : ((List.range ts.length).map fun i => ts.getD i 0).set b (ts.getD b 0 + 1) = (List.range ts.length).map fun i => ts.getD i 0 + if i = b then 1 else 0 :=
    set_range _ (fun i hi hne => by simp [hne]) (by simp)
  rw [← h2, ← e]
theorem okE_ints : ∀ xs : List Int, okEA 59 (xs.map D.int) = true
  | [] => rfl
  | x :: xs => by
    have := okE_ints xs
    simp [okE, okEA] at this ⊢
    exact this
theorem inD_ints (x : Int) : ∀ xs : List Int, inD (.int x) (xs.map D.int) = decide (x ∈ xs)
  | [] => rfl
  | y :: ys => by
    have ih := inD_ints x ys
    have e : inD (.int x) ((y :: ys).map D.int) = (eqD (.int y) (.int x) || inD (.int x) (ys.map D.int)) := rfl
    rw [e, ih]
    simp only [eqD, List.mem_cons]
    rw [Bool.eq_iff_iff]
    simp
    constructor <;> (rintro (h | h) <;> first | exact .inl h.symm | exact .inr h)
/-- the first k of the sorted rests are a closed pick of k -/
theorem sorted_pick {vs : List Int} {m : Int} {qs : List (Int × Int)} {k : Nat} (hk : k ≤ vs.length) (hp : qs.Perm ((List.range vs.length).map fun i => (-(overI vs m i), ((i : Nat) : Int)))) (hs : qs.Pairwise lexLe) :
    Closed vs m (fun i => decide (((i : Nat) : Int) ∈ (qs.take k).map (·.2))) ∧ cnt vs.length (fun i => decide (((i : Nat) : Int) ∈ (qs.take k).map (·.2))) = k := by
  have hlen : qs.length = vs.length := by
    rw [hp.length_eq]
    simp
  have hnd : (qs.map (·.2)).Nodup := by
    have := hp.map (·.2)
    rw [this.nodup_iff, List.map_map]
    exact List.pairwise_map.mpr (List.Pairwise.imp (fun {a b} h e => h (by have e : (a : Int) = b := e; omega)) List.nodup_range)
  have hm : ∀ p ∈ qs, ∃ i, i < vs.length ∧ p = (-(overI vs m i), ((i : Nat) : Int)) := fun p h => by
    obtain ⟨i, hi, e⟩ := List.mem_map.mp (hp.mem_iff.mp h)
    exact ⟨i, List.mem_range.mp hi, e.symm⟩
  have hm2 : ∀ i, i < vs.length → (-(overI vs m i), ((i : Nat) : Int)) ∈ qs := fun i hi => hp.mem_iff.mpr (List.mem_map.mpr ⟨i, List.mem_range.mpr hi, rfl⟩)
  have hsplit : qs = qs.take k ++ qs.drop k := (List.take_append_drop k qs).symm
  rw [hsplit, List.pairwise_append] at hs
  have snd : ∀ i, ((i : Nat) : Int) ∈ (qs.take k).map (·.2) → (-(overI vs m i), ((i : Nat) : Int)) ∈ qs.take k := fun i h => by
    obtain ⟨p, hp1, hp2⟩ := List.mem_map.mp h
    obtain ⟨j, hj, e⟩ := hm p (List.mem_of_mem_take hp1)
    subst e
    have : j = i := by
      have : ((j : Nat) : Int) = i := hp2
      omega
    subst this
    exact hp1
  refine ⟨⟨fun i j hi hj hpi hpj => ?_⟩, ?_⟩
  · have h1 := snd i (of_decide_eq_true hpi)
    have h2 : (-(overI vs m j), ((j : Nat) : Int)) ∈ qs.drop k := by
      have := hm2 j hj
      rw [hsplit] at this
      rcases List.mem_append.mp this with h | h
      · exact absurd (List.mem_map.mpr ⟨_, h, rfl⟩) (of_decide_eq_false hpj)
      · exact h
    have h3 := hs.2.2 _ h1 _ h2
    have hne : i ≠ j := fun e => by
      subst e
      rw [hpi] at hpj
      cases hpj
    unfold lexLe at h3
    simp only at h3
    unfold befI
    rw [Bool.or_eq_true, Bool.and_eq_true, decide_eq_true_eq, decide_eq_true_eq, decide_eq_true_eq]
    omega
  · have e1 : cnt vs.length (fun i => decide (((i : Nat) : Int) ∈ (qs.take k).map (·.2))) = (((List.range vs.length).map fun i => (-(overI vs m i), ((i : Nat) : Int))).filter fun p => decide (p.2 ∈ (qs.take k).map (·.2))).length := by
      rw [List.filter_map, List.length_map]
      rfl
    rw [e1, ← (hp.filter _).length_eq]
    have e2 : ∀ l : List (Int × Int), l = qs → (l.filter fun p => decide (p.2 ∈ (qs.take k).map (·.2))).length = ((qs.take k).filter fun p => decide (p.2 ∈ (qs.take k).map (·.2))).length + ((qs.drop k).filter fun p => decide (p.2 ∈ (qs.take k).map (·.2))).length := fun l h => by
      rw [h]
      conv => lhs; rw [hsplit]
      rw [List.filter_append, List.length_append]
      rw [← hsplit]
    rw [e2 qs rfl]
    have e3 : (qs.take k).filter (fun p => decide (p.2 ∈ (qs.take k).map (·.2))) = qs.take k := List.filter_eq_self.mpr fun p h => decide_eq_true (List.mem_map.mpr ⟨p, h, rfl⟩)
    have e4 : (qs.drop k).filter (fun p => decide (p.2 ∈ (qs.take k).map (·.2))) = [] := List.filter_eq_nil_iff.mpr fun p h => by
      intro hc
      have hc := of_decide_eq_true hc
      rw [hsplit, List.map_append, List.nodup_append] at hnd
      exact hnd.2.2 _ hc _ (List.mem_map.mpr ⟨p, h, rfl⟩) rfl
    rw [e3, e4, List.length_take, hlen]
    simp
    omega
end DL

/-! V14 (k54): the law's seats, the walk. -/
namespace DL
open PySem PySem.Spec PyProof.Rows L2
theorem v__law_seats (J : GJ) (ds : List D) (q : D → Prop) (_ : ds.length = 3) (h : S__law_seats J ds q) : w__law_seats J (startE N__law_seats ds) (EndQ q) := by
  obtain ⟨r, vs, m, rfl, hr, hv, h0, h1, hq⟩ := h
  have n0 := hv.lo; have n1 := hv.hi; have hp := hv.pos
  have hs : vs.sum ≤ 6000000000000 := by
    have := sum_le (n := vs.length) (fun i => vs.getD i 0) 1000000000000 fun i _ => (hv.at i).2
    rw [← sum_getD] at this
    have : (vs.length : Int) * 1000000000000 ≤ 6 * 1000000000000 := Int.mul_le_mul_of_nonneg_right (by omega) (by decide)
    omega
  obtain ⟨l0, l1⟩ := left_ok hv h0
  refine seq_step [.val (tuI vs), .val (.int m), .val (.str r), .val (.int vs.sum), .no, .no, .no, .no, .no, .no, .no, .no, .no] (fun E _ _ _ hE => ?_) ?_
  · simp [tuI]
    exact ⟨vs, rfl, hE⟩
  by_cases h4 : r = r4
  · have hq4 : q (tuI (restI vs m)) := by
      unfold rawI at hq
      rwa [if_pos h4] at hq
    let bs : List Int := (List.range vs.length).map (baseI vs m)
    let ps : List (Int × Int) := (List.range vs.length).map fun i => (-(overI vs m i), ((i : Nat) : Int))
    have hbl : bs.length = vs.length := by simp [bs]
    have hbd : ∀ i, i < vs.length → bs.getD i 0 = baseI vs m i := fun i hi => by
      show ((List.range vs.length).map (baseI vs m)).getD i 0 = _
      rw [List.getD_eq_getElem?_getD, List.getElem?_map, List.getElem?_range hi]
      rfl
    have hleft : m - bs.sum = leftI vs m := rfl
    have test : ∀ k : Bool → En → Prop, k true [.val (tuI vs), .val (.int m), .val (.str r), .val (.int vs.sum), .no, .no, .no, .no, .no, .no, .no, .no, .no] → wTB (w2 oEq (wB 2) (wOf (wC (.str "rest")))) [.val (tuI vs), .val (.int m), .val (.str r), .val (.int vs.sum), .no, .no, .no, .no, .no, .no, .no, .no, .no] k := by
      intro k hk
      simp [okE, eqD, h4]
      simpa [h4] using hk
    refine seq_stepP (fun _ => False) (fun E hrt _ _ hE => ?_) fun e he => he.elim
    simp only [sIf]
    refine test _ ?_
    rw [if_pos rfl]
    refine seq_step [.val (tuI vs), .val (.int m), .val (.str r), .val (.int vs.sum), .val (liI bs), .no, .no, .no, .no, .no, .no, .no, .no] (fun E _ _ _ hE => ?_) ?_
    · simp [tuI]
      refine ⟨rfl, ?_⟩
      refine lc_map1 D.int (fun v => .int (v * m / vs.sum)) rfl vs (fun v hv' k hk => ?_) (small_sz (by omega)) ?_
      · simp
        exact ⟨cm (hv.nn v hv') (by have := hv.top v hv'; omega), ⟨hp, by omega⟩, hk⟩
      · have e : vs.map (fun v => D.int (v * m / vs.sum)) = bs.map D.int := by
          rw [map_getD (fun v => D.int (v * m / vs.sum)), List.map_map]
          rfl
        rw [e]
        exact hE
    refine seq_stepP (fun e => ∃ qs : List (Int × Int), qs.Perm ps ∧ qs.Pairwise lexLe ∧ e = [.val (tuI vs), .val (.int m), .val (.str r), .val (.int vs.sum), .val (liI bs), .no, .val (.lst (qs.map pairD)), .no, .no, .no, .no, .no, .no]) (fun E _ _ _ hE => ?_) fun e he => ?_
    · simp [-enD, tuI]
      refine ⟨rfl, ?_⟩
      rw [enD_ints]
      refine lc_gen (α := Nat) _ (fun i => pairD (-(overI vs m i), ((i : Nat) : Int))) (fun _ => true) (fun i => [.val (tuI vs), .val (.int m), .val (.str r), .val (.int vs.sum), .val (liI bs), .val (.int (vs.getD i 0)), .no, .val (.int (i : Nat)), .no, .no, .no, .no, .no]) (fun i => rfl) _ _ (fun i hi k hk => ?_) (fun i hi k hk => hk) (fun i hi hp' k hk => ?_) (by simp; exact small_sz (by omega)) ?_
      · exact ⟨_, rfl, rfl, _, _, rfl, _, _, rfl, rfl, hk⟩
      · have vi := hv.at i
        simp [-List.getD_eq_getElem?_getD]
        exact ⟨cm vi.1 (by omega), hp, hk⟩
      · rw [filter_yes, List.nil_append]
        have e : (List.range vs.length).map (fun i => pairD (-(overI vs m i), ((i : Nat) : Int))) = ps.map pairD := by
          rw [List.map_map]
          rfl
        rw [e]
        exact ⟨ps, rfl, fun qs h1 h2 => hE _ ⟨qs, h1, h2, rfl⟩⟩
    obtain ⟨qs, hperm, hsort, rfl⟩ := he
    have hql : qs.length = vs.length := by
      rw [hperm.length_eq]
      simp [ps]
    obtain ⟨hcl, hcn⟩ := sorted_pick (k := (leftI vs m).toNat) (by omega) hperm hsort
    let lk : List Int := (qs.take (leftI vs m).toNat).map (·.2)
    refine seq_step [.val (tuI vs), .val (.int m), .val (.str r), .val (.int vs.sum), .val (liI bs), .no, .val (.lst (qs.map pairD)), .no, .val (liI lk), .no, .no, .no, .no] (fun E _ _ _ hE => ?_) ?_
    · have ec : cutD (qs.map pairD) none (some (m - bs.sum)) = (qs.take (leftI vs m).toNat).map pairD := by
        have := cutD_lo (qs.map pairD) (leftI vs m).toNat (by rw [List.length_map]; omega)
        rw [← List.map_take] at this
        rw [hleft, ← this]
        congr 2
        omega
      simp [liI]
      refine ⟨bs, rfl, ?_⟩
      rw [ec]
      refine ⟨rfl, ?_⟩
      refine lc_gen (α := Int × Int) _ (fun p => .int p.2) (fun _ => true) (fun p => [.val (tuI vs), .val (.int m), .val (.str r), .val (.int vs.sum), .val (liI bs), .no, .val (.lst (qs.map pairD)), .val (.int p.2), .no, .val (.int p.1), .no, .no, .no]) (fun i => rfl) _ _ (fun p hp' k hk => ?_) (fun i hi k hk => hk) (fun p hp' _ k hk => ?_) (by simp; exact small_sz (by omega)) ?_
      · exact ⟨_, rfl, rfl, _, _, rfl, _, _, rfl, rfl, hk⟩
      · simpa using hk
      · rw [filter_yes, List.nil_append]
        have e : (qs.take (leftI vs m).toNat).map (fun p => D.int p.2) = lk.map D.int := by
          rw [List.map_map]
          rfl
        rw [e]
        exact hE
    simp [-enD, liI]
    rw [enD_ints]
    refine ⟨rfl, ?_⟩
    refine lc_gen (α := Nat) _ (fun i => .int (bs.getD i 0 + if decide (((i : Nat) : Int) ∈ lk) = true then 1 else 0)) (fun _ => true) (fun i => [.val (tuI vs), .val (.int m), .val (.str r), .val (.int vs.sum), .val (liI bs), .no, .val (.lst (qs.map pairD)), .val (.int (i : Nat)), .val (liI lk), .no, .val (.int (bs.getD i 0)), .no, .no]) (fun i => rfl) _ _ (fun i hi k hk => ?_) (fun i hi k hk => hk) (fun i hi hp' k hk => ?_) (by simp; exact small_sz (by omega)) ?_
    · exact ⟨_, rfl, rfl, _, _, rfl, _, _, rfl, rfl, hk⟩
    · simp [-List.getD_eq_getElem?_getD, liI]
      rw [inD_ints]
      exact ⟨okE_ints lk, hk⟩
    · rw [filter_yes, List.nil_append]
      have e : (List.range bs.length).map (fun i => D.int (bs.getD i 0 + if decide (((i : Nat) : Int) ∈ lk) = true then 1 else 0)) = (restI vs m).map D.int := by
        rw [← restI_of hcl (by omega), hbl]
        unfold fL
        rw [List.map_map]
        exact List.map_congr_left fun i hi => by
          show D.int _ = D.int _
          rw [hbd i (List.mem_range.mp hi)]
      rw [e]
      rw [hrt]
      exact hq4
  · refine seq_step [.val (tuI vs), .val (.int m), .val (.str r), .val (.int vs.sum), .no, .no, .no, .no, .no, .no, .no, .no, .no] (fun E _ _ _ hE => ?_) ?_
    · simp [okE, eqD]
      exact .inl ⟨h4, hE⟩
    have hr' : r ∈ [r1, r2, r3] := by
      simp only [List.mem_cons, List.not_mem_nil, or_false] at hr ⊢
      rcases hr with h | h | h | h
      · exact .inl h
      · exact .inr (.inl h)
      · exact .inr (.inr h)
      · exact absurd h h4
    unfold rawI at hq
    rw [if_neg h4] at hq
    refine seq_step [.val (tuI vs), .val (.int m), .val (.str r), .val (.int vs.sum), .val (liI (seatsI r vs 0)), .no, .no, .no, .no, .no, .no, .no, .no] (fun E _ _ _ hE => ?_) ?_
    · simp [tuI]
      refine ⟨by omega, small_sz (by omega), ?_⟩
      simpa [seatsI, tuI, liI] using hE
    refine seq_stepP (fun e => ∃ t u, e = [.val (tuI vs), .val (.int m), .val (.str r), .val (.int vs.sum), .val (liI (seatsI r vs m.toNat)), .no, .no, .no, .no, .no, .no, t, u]) (fun E _ _ _ hE => ?_) fun e he => ?_
    · simp only [sFor, wR1]
      simp
      refine ⟨⟨by omega, by omega⟩, ?_⟩
      rw [rgD_nat]
      refine for_ind (α := Nat) _ (fun xs e => ∃ k t u, xs = List.range' k (m.toNat - k) ∧ k ≤ m.toNat ∧ e = [.val (tuI vs), .val (.int m), .val (.str r), .val (.int vs.sum), .val (liI (seatsI r vs k)), .no, .no, .no, .no, .no, .no, t, u]) (fun e h => ?_) (fun x xs e h R hR => ?_) _ _ ⟨0, .no, .no, List.range_eq_range', Nat.zero_le _, rfl⟩
      · obtain ⟨k, t, u, e1, e2, rfl⟩ := h
        have hk : m.toNat - k = 0 := by
          have := congrArg List.length e1
          simpa using this.symm
        have : k = m.toNat := by omega
        subst this
        exact hE _ ⟨t, u, rfl⟩
      · obtain ⟨k, t, u, e1, e2, rfl⟩ := h
        have hk : m.toNat - k = (m.toNat - (k + 1)) + 1 := by
          have := congrArg List.length e1
          simp at this
          omega
        rw [hk, List.range'_succ] at e1
        obtain ⟨rfl, rfl⟩ := List.cons.inj e1
        have ht := seats_tok (r := r) hv (k := x) (by omega)
        have hn := nextI_lt (r := r) (ts := seatsI r vs x) n0
        have hl := ht.len
        refine seq_step [.val (tuI vs), .val (.int m), .val (.str r), .val (.int vs.sum), .val (liI (seatsI r vs x)), .no, .no, .no, .no, .no, .no, .val (.int (x : Nat)), .val (.int (nextI r vs (seatsI r vs x) : Nat))] (fun E' _ _ _ hE' => ?_) ?_
        · simp [S__law_next]
          exact ⟨r, vs, _, ⟨rfl, rfl, rfl⟩, by simpa using hr', hv, ht, hE'⟩
        simp [liI, -enD]
        rw [enD_ints]
        refine ⟨rfl, ?_⟩
        refine lc_gen (α := Nat) _ (fun i => .int ((seatsI r vs x).getD i 0 + if i = nextI r vs (seatsI r vs x) then 1 else 0)) (fun _ => true) (fun i => [.val (tuI vs), .val (.int m), .val (.str r), .val (.int vs.sum), .val (liI (seatsI r vs x)), .no, .no, .val (.int (i : Nat)), .no, .no, .val (.int ((seatsI r vs x).getD i 0)), .val (.int (x : Nat)), .val (.int (nextI r vs (seatsI r vs x) : Nat))]) (fun i => rfl) _ _ (fun i hi k hk => ?_) (fun i hi k hk => hk) (fun i hi hp k hk => ?_) (by simp; exact small_sz (by omega)) ?_
        · exact ⟨_, rfl, rfl, _, _, rfl, _, _, rfl, rfl, hk⟩
        · simp [okE, eqD, -List.getD_eq_getElem?_getD]
          have ec : (if ((i : Nat) : Int) = ((nextI r vs (seatsI r vs x) : Nat) : Int) then (1 : Int) else 0) = if i = nextI r vs (seatsI r vs x) then 1 else 0 := by
            by_cases e : i = nextI r vs (seatsI r vs x)
            · rw [if_pos e, if_pos (by omega)]
            · rw [if_neg e, if_neg (by omega)]
          rw [ec]
          exact hk
        · rw [filter_yes, List.nil_append]
          have eb : (List.range (seatsI r vs x).length).map (fun i => D.int ((seatsI r vs x).getD i 0 + if i = nextI r vs (seatsI r vs x) then 1 else 0)) = (seatsI r vs (x + 1)).map D.int := by
            show _ = (bump (seatsI r vs x) (nextI r vs (seatsI r vs x))).map D.int
            rw [bump_map hl hn, List.map_map]
            rfl
          rw [eb]
          exact hR _ ⟨x + 1, _, _, rfl, by omega, rfl⟩
    · obtain ⟨t, u, rfl⟩ := he
      simp [liI]
      exact hq
end DL

/-! V15 (k54): lost seats. -/
namespace DL
open PySem PySem.Spec PyProof.Rows L2
theorem rest_len (vs : List Int) (m : Int) : (restI vs m).length = vs.length := by simp [restI]
theorem lost_some {vs : List Int} {m k : Nat} (hk : k < m) (h1 : ∀ i, i < k → fallsB vs i = false) (h2 : fallsB vs k = true) : lostD vs m = .int (k : Nat) := by
  unfold lostD
  have : (List.range m).find? (fallsB vs) = some k := by
    rw [List.find?_range_eq_some]
    exact ⟨h2, List.mem_range.mpr hk, fun j hj => by rw [h1 j hj]; rfl⟩
  rw [this]
theorem lost_none {vs : List Int} {m : Nat} (h1 : ∀ i, i < m → fallsB vs i = false) : lostD vs m = .non := by
  unfold lostD
  have : (List.range m).find? (fallsB vs) = none := List.find?_eq_none.mpr fun i hi => by
    rw [h1 i (List.mem_range.mp hi)]
    decide
  rw [this]
theorem v_lost_seat (J : GJ) (ds : List D) (q : D → Prop) (_ : ds.length = 2) (h : S_lost_seat J ds q) : w_lost_seat J (startE N_lost_seat ds) (EndQ q) := by
  obtain ⟨vs, m, rfl, hv, h0, h1, hq⟩ := h
  have n0 := hv.lo; have n1 := hv.hi
  refine seq_step [.val (tuI vs), .val (.int (m : Nat)), .no, .no, .no, .no, .no] (fun E _ _ _ hE => ?_) ?_
  · simp [S_check_votes]
    exact ⟨vs, rfl, hv, hE⟩
  refine seq_step [.val (tuI vs), .val (.int (m : Nat)), .no, .no, .no, .no, .no] (fun E _ _ _ hE => ?_) ?_
  · simp [S_is_within]
    exact ⟨_, _, _, ⟨rfl, rfl, rfl⟩, ⟨by omega, by omega⟩, hE⟩
  refine seq_stepP (fun e => (∀ i, i < m → fallsB vs i = false)) (fun E hrt _ _ hE => ?_) fun e he => ?_
  · simp only [sFor, wR1]
    refine ⟨_, rfl, by omega, ?_⟩
    rw [Int.toNat_natCast, rgD_nat]
    refine for_ind (α := Nat) _ (fun xs e => ∃ k s t u, xs = List.range' k (m - k) ∧ k ≤ m ∧ (∀ i, i < k → fallsB vs i = false) ∧ e = [.val (tuI vs), .val (.int (m : Nat)), s, t, u, .no, .no]) (fun e h => ?_) (fun x xs e h R hR => ?_) _ _ ⟨0, .no, .no, .no, List.range_eq_range', Nat.zero_le _, fun i h => absurd h (by omega), rfl⟩
    · obtain ⟨k, s, t, u, e1, e2, e3, rfl⟩ := h
      have hk : m - k = 0 := by
        have := congrArg List.length e1
        simpa using this.symm
      have : k = m := by omega
      subst this
      exact hE _ e3
    · obtain ⟨k, s, t, u, e1, e2, e3, rfl⟩ := h
      have hk : m - k = (m - (k + 1)) + 1 := by
        have := congrArg List.length e1
        simp at this
        omega
      rw [hk, List.range'_succ] at e1
      obtain ⟨rfl, rfl⟩ := List.cons.inj e1
      have hx : x < m := by omega
      refine seq_step [.val (tuI vs), .val (.int (m : Nat)), .val (.int (x : Nat)), .val (tuI (restI vs x)), .val (tuI (restI vs ((x : Int) + 1))), .no, .no] (fun E' _ _ _ hE' => ?_) ?_
      · simp [S_by_rests]
        exact ⟨vs, _, ⟨rfl, rfl⟩, hv, by omega, by omega, vs, _, ⟨rfl, rfl⟩, hv, by omega, by omega, hE'⟩
      simp [tuI, -zipD]
      refine ⟨_, _, ⟨rfl, rfl⟩, _, rfl, _, rfl, rfl, ?_⟩
      rw [zipD_ints]
      refine lc_gen (α := Int × Int) _ (fun p => .bl (decide (p.1 > p.2))) (fun _ => true) (fun p => [.val (tuI vs), .val (.int (m : Nat)), .val (.int (x : Nat)), .val (tuI (restI vs x)), .val (tuI (restI vs ((x : Int) + 1))), .val (.int p.1), .val (.int p.2)]) (fun i => rfl) _ _ (fun p hp' k hk => ?_) (fun i hi k hk => hk) (fun p hp' _ k hk => ?_) (by simp [rest_len]; exact small_sz (by omega)) ?_
      · exact ⟨_, rfl, rfl, _, _, rfl, _, _, rfl, rfl, hk⟩
      · simpa using hk
      · rw [filter_yes, List.nil_append]
        refine ⟨((restI vs x).zip (restI vs ((x : Int) + 1))).map fun p => decide (p.1 > p.2), by rw [List.map_map]; rfl, ?_⟩
        have e4 : fallsB vs x = true ↔ true ∈ ((restI vs x).zip (restI vs ((x : Int) + 1))).map fun p => decide (p.1 > p.2) := by
          unfold fallsB
          rw [List.any_eq_true, List.mem_map]
        cases hf : fallsB vs x with
        | true =>
          rw [hf] at e4
          refine .inr ⟨e4.mp rfl, ?_⟩
          show E.rt _ _
          rw [hrt]
          rw [lost_some hx e3 hf] at hq
          exact hq
        | false =>
          rw [hf] at e4
          refine .inl ⟨(fun h => by have := e4.mpr h; cases this), hR _ ⟨x + 1, _, _, _, rfl, by omega, fun i hi => ?_, rfl⟩⟩
          by_cases e : i = x
          · rw [e]
            exact hf
          · exact e3 i (by omega)
  · simp
    rw [lost_none he] at hq
    exact hq
theorem v__law_lost (J : GJ) (ds : List D) (q : D → Prop) (_ : ds.length = 2) (h : S__law_lost J ds q) : w__law_lost J (startE N__law_lost ds) (EndQ q) := by
  obtain ⟨vs, m, rfl, hv, h0, h1, hq⟩ := h
  have n0 := hv.lo; have n1 := hv.hi
  refine seq_stepP (fun e => (∀ i, i < m → fallsB vs i = false)) (fun E hrt _ _ hE => ?_) fun e he => ?_
  · simp only [sFor, wR1]
    refine ⟨_, rfl, by omega, ?_⟩
    rw [Int.toNat_natCast, rgD_nat]
    refine for_ind (α := Nat) _ (fun xs e => ∃ k s t u, xs = List.range' k (m - k) ∧ k ≤ m ∧ (∀ i, i < k → fallsB vs i = false) ∧ e = [.val (tuI vs), .val (.int (m : Nat)), s, t, u, .no, .no]) (fun e h => ?_) (fun x xs e h R hR => ?_) _ _ ⟨0, .no, .no, .no, List.range_eq_range', Nat.zero_le _, fun i h => absurd h (by omega), rfl⟩
    · obtain ⟨k, s, t, u, e1, e2, e3, rfl⟩ := h
      have hk : m - k = 0 := by
        have := congrArg List.length e1
        simpa using this.symm
      have : k = m := by omega
      subst this
      exact hE _ e3
    · obtain ⟨k, s, t, u, e1, e2, e3, rfl⟩ := h
      have hk : m - k = (m - (k + 1)) + 1 := by
        have := congrArg List.length e1
        simp at this
        omega
      rw [hk, List.range'_succ] at e1
      obtain ⟨rfl, rfl⟩ := List.cons.inj e1
      have hx : x < m := by omega
      refine seq_step [.val (tuI vs), .val (.int (m : Nat)), .val (.int (x : Nat)), .val (tuI (restI vs x)), .val (tuI (restI vs ((x : Int) + 1))), .no, .no] (fun E' _ _ _ hE' => ?_) ?_
      · simp [S__law_seats]
        exact ⟨r4, vs, _, ⟨rfl, rfl, rfl⟩, by simp, hv, by omega, by omega, r4, vs, _, ⟨rfl, rfl, rfl⟩, by simp, hv, by omega, by omega, hE'⟩
      simp [tuI, -zipD]
      refine ⟨_, _, ⟨rfl, rfl⟩, _, rfl, _, rfl, rfl, ?_⟩
      rw [zipD_ints]
      refine lc_gen (α := Int × Int) _ (fun p => .bl (decide (p.1 > p.2))) (fun _ => true) (fun p => [.val (tuI vs), .val (.int (m : Nat)), .val (.int (x : Nat)), .val (tuI (restI vs x)), .val (tuI (restI vs ((x : Int) + 1))), .val (.int p.1), .val (.int p.2)]) (fun i => rfl) _ _ (fun p hp' k hk => ?_) (fun i hi k hk => hk) (fun p hp' _ k hk => ?_) (by simp [rest_len]; exact small_sz (by omega)) ?_
      · exact ⟨_, rfl, rfl, _, _, rfl, _, _, rfl, rfl, hk⟩
      · simpa using hk
      · rw [filter_yes, List.nil_append]
        refine ⟨((restI vs x).zip (restI vs ((x : Int) + 1))).map fun p => decide (p.1 > p.2), by rw [List.map_map]; rfl, ?_⟩
        have e4 : fallsB vs x = true ↔ true ∈ ((restI vs x).zip (restI vs ((x : Int) + 1))).map fun p => decide (p.1 > p.2) := by
          unfold fallsB
          rw [List.any_eq_true, List.mem_map]
        cases hf : fallsB vs x with
        | true =>
          rw [hf] at e4
          refine .inr ⟨e4.mp rfl, ?_⟩
          show E.rt _ _
          rw [hrt]
          rw [lost_some hx e3 hf] at hq
          exact hq
        | false =>
          rw [hf] at e4
          refine .inl ⟨(fun h => by have := e4.mpr h; cases this), hR _ ⟨x + 1, _, _, _, rfl, by omega, fun i hi => ?_, rfl⟩⟩
          by_cases e : i = x
          · rw [e]
            exact hf
          · exact e3 i (by omega)
  · simp
    rw [lost_none he] at hq
    exact hq
end DL

/-! V16 (k54): votes drawn. -/
namespace DL
open PySem PySem.Spec PyProof.Rows L2
theorem lc_draw {α : Type} {i : Nat} {te : WE} {fin : List D → En → Prop} {e : En} (f : α → D) (P : Int → Prop) (he : e[i]? = some .no) :
    ∀ (xs : List α) (as : List Int), (∀ x ∈ xs, ∀ k : D → En → Prop, (∀ r, P r → k (.int r) (e.set i (.val (f x)))) → te (e.set i (.val (f x))) k) → as.length + xs.length ≤ sizeLine →
    (∀ ns : List Int, ns.length = xs.length → (∀ n ∈ ns, P n) → fin ((as ++ ns).map D.int) e) → lcGo [i] (gN i) wYes te fin (xs.map f) (as.map D.int) e
  | [], as, _, _, hf => by simpa [lcGo] using hf [] rfl (by simp)
  | x :: xs, as, hy, hl, hf => by
    simp only [List.length_cons] at hl
    simp only [List.map_cons, lcGo, gN, wYes, if_true]
    refine hy x List.mem_cons_self _ fun r hr => ⟨by rw [List.length_map]; omega, ?_⟩
    rw [wipe_set he]
    have e1 : as.map D.int ++ [.int r] = (as ++ [r]).map D.int := by simp
    rw [e1]
    refine lc_draw f P he xs (as ++ [r]) (fun z hz => hy z (List.mem_cons_of_mem _ hz)) (by simp; omega) fun ns h1 h2 => ?_
    have := hf (r :: ns) (by simp [h1]) (fun n hn => by
      rcases List.mem_cons.mp hn with h | h
      · rw [h]
        exact hr
      · exact h2 n h)
    simpa using this
structure NOk (ns : List Int) : Prop where
  lo : 1 ≤ ns.length
  hi : ns.length ≤ 6
  nn : ∀ n ∈ ns, 0 ≤ n
  top : ∀ n ∈ ns, n ≤ 1000000000000
theorem sum_nn' : ∀ ns : List Int, (∀ n ∈ ns, 0 ≤ n) → 0 ≤ ns.sum
  | [], _ => by simp
  | n :: ns, h => by
    have h1 := h n List.mem_cons_self
    have h2 := sum_nn' ns fun m hm => h m (List.mem_cons_of_mem _ hm)
    simp
    omega
theorem v__law_votes (J : GJ) (ds : List D) (q : D → Prop) (_ : ds.length = 1) (h : S__law_votes J ds q) : w__law_votes J (startE N__law_votes ds) (EndQ q) := by
  obtain ⟨a, rfl, hJ, hq⟩ := h
  refine seq_stepP (fun e => ∃ M : Int, 0 < M ∧ M ≤ 1000000000000 ∧ e = [.val (.tk a), .val (.int M), .no, .no]) (fun E _ _ _ hE => ?_) fun e he => ?_
  · simp [S__law_any]
    refine ⟨⟨by decide, by decide, by decide⟩, a, [.int 3, .int 9, .int 100, .int 1000000000000], ⟨rfl, rfl⟩, hJ, by simp, by simp, fun x hx => ?_⟩
    simp only [List.mem_cons, List.not_mem_nil, or_false] at hx
    rcases hx with rfl | rfl | rfl | rfl
    · exact hE _ ⟨_, by decide, by decide, rfl⟩
    · exact hE _ ⟨_, by decide, by decide, rfl⟩
    · exact hE _ ⟨_, by decide, by decide, rfl⟩
    · exact hE _ ⟨_, by decide, by decide, rfl⟩
  obtain ⟨M, m0, m1, rfl⟩ := he
  refine seq_stepP (fun e => ∃ ns, NOk ns ∧ e = [.val (.tk a), .val (.int M), .val (liI ns), .no]) (fun E _ _ _ hE => ?_) fun e he => ?_
  · simp [S__law_draw]
    refine ⟨a, _, ⟨rfl, rfl⟩, hJ, by decide, by decide, fun d d0 d1 => ⟨⟨by omega, by omega⟩, rfl, ?_⟩⟩
    rw [rgD_nat]
    refine lc_draw (α := Nat) _ (fun r => 0 ≤ r ∧ r < M) rfl (List.range (1 + d).toNat) [] (fun x hx k hk => ?_) (small_sz (by rw [List.length_range, List.length_nil]; omega)) fun ns h1 h2 => ?_
    · simp [S__law_draw]
      exact ⟨a, M, ⟨rfl, rfl⟩, hJ, m0, by omega, fun r r0 r1 => hk r ⟨r0, r1⟩⟩
    · have hl : ns.length = (1 + d).toNat := by simpa using h1
      exact hE _ ⟨ns, ⟨by omega, by omega, fun n hn => (h2 n hn).1, fun n hn => by have := (h2 n hn).2; omega⟩, rfl⟩
  obtain ⟨ns, hn, rfl⟩ := he
  refine seq_stepP (fun e => ∃ ns, NOk ns ∧ e = [.val (.tk a), .val (.int M), .val (liI ns), .no]) (fun E _ _ _ hE => ?_) fun e he => ?_
  · have hlo := hn.lo; have hhi := hn.hi
    simp [S__law_draw, okE, eqD, liI]
    refine ⟨a, _, ⟨rfl, rfl⟩, hJ, by decide, by decide, fun d d0 d1 => ?_⟩
    by_cases hd : d = 0
    · refine .inr ⟨hd, ?_⟩
      cases ns with
      | nil => simp at hlo
      | cons n ns =>
        have ec : cutD ((n :: ns).map D.int) none (some 1) = [.int n] := by
          have := cutD_lo ((n :: ns).map D.int) 1 (by simp)
          simpa using this
        simp only [List.map_cons] at ec ⊢
        rw [ec]
        simp only [List.length_cons] at hlo hhi ⊢
        refine ⟨by omega, small_sz (by simp; omega), ?_⟩
        have e1 : (List.replicate (ns.length + 1) [D.int n]).flatten = (List.replicate (ns.length + 1) n).map D.int := by
          generalize ns.length + 1 = c
          induction c with
          | zero => rfl
          | succ c ih => rw [List.replicate_succ, List.replicate_succ, List.flatten_cons, ih]; rfl
        have e2 := hE [.val (.tk a), .val (.int M), .val (liI (List.replicate (ns.length + 1) n)), .no] ⟨_, ⟨by simp, by simp; omega, fun x hx => by rw [List.eq_of_mem_replicate hx]; exact hn.nn n List.mem_cons_self, fun x hx => by rw [List.eq_of_mem_replicate hx]; exact hn.top n List.mem_cons_self⟩, rfl⟩
        unfold liI at e2
        rw [← e1] at e2
        exact e2
    · exact .inl ⟨hd, hE _ ⟨ns, hn, rfl⟩⟩
  obtain ⟨ns, hn, rfl⟩ := he
  have hlo := hn.lo; have hhi := hn.hi
  simp [liI]
  refine ⟨ns, rfl, ?_⟩
  by_cases hs : 0 < ns.sum
  · exact .inr ⟨hs, hq ns ⟨hlo, hhi, hn.nn, hn.top, hs⟩⟩
  · refine .inl ⟨by omega, ?_⟩
    have ec : cutD (ns.map D.int) none (some (-1)) = (ns.take (ns.length - 1)).map D.int := by
      unfold cutD
      rw [HT.sIx_none]
      have : HT.sIx (ns.map D.int).length (ns.map D.int).length (some (-1)) = ns.length - 1 := by
        simp [HT.sIx]
        omega
      rw [this, List.map_take]
      simp
    rw [ec]
    have hl : (ns.take (ns.length - 1)).length = ns.length - 1 := by
      rw [List.length_take]
      omega
    have hmem : ∀ x ∈ ns.take (ns.length - 1) ++ [1], x = 1 ∨ x ∈ ns := fun x hx => by
      rcases List.mem_append.mp hx with h | h
      · exact .inr (List.mem_of_mem_take h)
      · exact .inl (by simpa using h)
    have e2 := hq (ns.take (ns.length - 1) ++ [1]) ⟨by simp, by rw [List.length_append, hl]; simp; omega, fun x hx => by
      rcases hmem x hx with h | h
      · omega
      · exact hn.nn x h, fun x hx => by
      rcases hmem x hx with h | h
      · omega
      · exact hn.top x h, by
      rw [List.sum_append]
      have := sum_nn' (ns.take (ns.length - 1)) fun x hx => hn.nn x (List.mem_of_mem_take hx)
      simp
      omega⟩
    refine ⟨small_sz (by simp; omega), ?_⟩
    simpa [tuI] using e2
end DL

/-! V17 (k54): fractions, the greatest, the least. -/
namespace DL
open PySem PySem.Spec PyProof.Rows L2
theorem low_eq {p q : Int} : p = gcdI p q * (lowF p q).1 ∧ q = gcdI p q * (lowF p q).2 := by
  unfold lowF gcdI
  exact ⟨(Int.mul_ediv_cancel' (Int.gcd_dvd_left ..)).symm, (Int.mul_ediv_cancel' (Int.gcd_dvd_right ..)).symm⟩
theorem low_ok {p q : Int} (h : FOk (p, q)) : FOk (lowF p q) := by
  have a0 := h.a0; have a1 := h.a1; have b0 := h.b0; have b1 := h.b1
  simp only at a0 a1 b0 b1
  have g0 := gcdI_pos (a := p) b0
  obtain ⟨e1, e2⟩ := low_eq (p := p) (q := q)
  refine ⟨Int.ediv_nonneg a0 (by omega), Int.le_trans (Int.ediv_le_self _ a0) a1, ?_, Int.le_trans (Int.ediv_le_self _ (by omega)) b1⟩
  apply Classical.byContradiction
  intro hn
  have h2 : (lowF p q).2 ≤ 0 := by omega
  have : gcdI p q * (lowF p q).2 ≤ 0 := Int.mul_nonpos_of_nonneg_of_nonpos (by omega) h2
  omega
theorem low_pos {p q : Int} (hp : 0 < p) (hq : 0 < q) : 0 < (lowF p q).1 := by
  obtain ⟨e1, _⟩ := low_eq (p := p) (q := q)
  have g0 := gcdI_pos (a := p) hq
  apply Classical.byContradiction
  intro hn
  have : gcdI p q * (lowF p q).1 ≤ 0 := Int.mul_nonpos_of_nonneg_of_nonpos (by omega) (by omega)
  omega
/-- reduced or not: the same order -/
theorem low_below {p q r s : Int} (hq : 0 < q) (hs : 0 < s) (h : r * q ≤ p * s) : belowB (lowF p q) (lowF r s) = false := by
  unfold belowB
  refine decide_eq_false ?_
  intro hn
  obtain ⟨e1, e2⟩ := low_eq (p := p) (q := q)
  obtain ⟨e3, e4⟩ := low_eq (p := r) (q := s)
  have g0 := gcdI_pos (a := p) hq
  have g1 := gcdI_pos (a := r) hs
  have hg : 0 < gcdI p q * gcdI r s := Int.mul_pos g0 g1
  have h1 := Int.mul_lt_mul_of_pos_left hn hg
  have e5 : gcdI p q * gcdI r s * ((lowF p q).1 * (lowF r s).2) = p * s := by
    conv => rhs; rw [e1, e4]
    simp only [Int.mul_assoc, Int.mul_left_comm]
  have e6 : gcdI p q * gcdI r s * ((lowF r s).1 * (lowF p q).2) = r * q := by
    conv => rhs; rw [e3, e2]
    simp only [Int.mul_assoc, Int.mul_left_comm]
  rw [e5, e6] at h1
  omega
theorem fold_mem {f : Int × Int → Int × Int → Bool} : ∀ (xs : List (Int × Int)) (a : Int × Int), xs.foldl (fun a x => if f a x then x else a) a = a ∨ xs.foldl (fun a x => if f a x then x else a) a ∈ xs
  | [], a => .inl rfl
  | x :: xs, a => by
    rw [List.foldl_cons]
    rcases fold_mem (f := f) xs (if f a x then x else a) with h | h
    · rw [h]
      split
      · exact .inr List.mem_cons_self
      · exact .inl rfl
    · exact .inr (List.mem_cons_of_mem _ h)
theorem max_mem {ps : List (Int × Int)} (h : ps ≠ []) : maxF ps ∈ ps := by
  cases ps with
  | nil => exact absurd rfl h
  | cons p ps =>
    rcases fold_mem (f := fun a x => belowB a x) ps p with e | e
    · show ps.foldl _ p ∈ _
      rw [e]
      exact List.mem_cons_self
    · exact List.mem_cons_of_mem _ e
theorem min_mem {ps : List (Int × Int)} (h : ps ≠ []) : minF ps ∈ ps := by
  cases ps with
  | nil => exact absurd rfl h
  | cons p ps =>
    rcases fold_mem (f := fun a x => belowB x a) ps p with e | e
    · show ps.foldl _ p ∈ _
      rw [e]
      exact List.mem_cons_self
    · exact List.mem_cons_of_mem _ e
theorem fold_pos : ∀ (xs : List (Int × Int)) (a : Int × Int), FOk a → (∀ x ∈ xs, FOk x) → (0 < a.1 ∨ ∃ x ∈ xs, 0 < x.1) → 0 < (xs.foldl (fun a x => if belowB a x then x else a) a).1
  | [], a, _, _, h => by
    rcases h with h | ⟨x, hx, _⟩
    · exact h
    · cases hx
  | x :: xs, a, ha, hx, h => by
    rw [List.foldl_cons]
    have hx1 := hx x List.mem_cons_self
    have hx2 : ∀ y ∈ xs, FOk y := fun y hy => hx y (List.mem_cons_of_mem _ hy)
    have a0 := ha.a0; have a2 := ha.b0; have x0 := hx1.a0; have x2 := hx1.b0
    cases hb : belowB a x with
    | true =>
      rw [if_pos rfl]
      refine fold_pos xs x hx1 hx2 (.inl ?_)
      unfold belowB at hb
      have hb := of_decide_eq_true hb
      have : 0 ≤ a.1 * x.2 := Int.mul_nonneg a0 (by omega)
      apply Classical.byContradiction
      intro hn
      have : x.1 = 0 := by omega
      rw [this, Int.zero_mul] at hb
      omega
    | false =>
      rw [if_neg (by simp)]
      refine fold_pos xs a ha hx2 ?_
      rcases h with h | ⟨y, hy, hp⟩
      · exact .inl h
      · rcases List.mem_cons.mp hy with e | hy
        · subst e
          left
          unfold belowB at hb
          have hb := of_decide_eq_false hb
          apply Classical.byContradiction
          intro hn
          have : a.1 = 0 := by omega
          rw [this, Int.zero_mul] at hb
          have := Int.mul_pos hp a2
          omega
        · exact .inr ⟨y, hy, hp⟩
theorem lo_fok {r : Str} {v t : Int} (v0 : 0 ≤ v) (v1 : v ≤ 1000000000000) (t0 : 0 ≤ t) (t1 : t ≤ 1000) : FOk (loF r v t) := by
  unfold loF
  split
  · exact low_ok ⟨v0, by simp only; omega, by simp only; omega, by simp only; omega⟩
  · exact low_ok ⟨by simp only; omega, by simp only; omega, by simp only; omega, by simp only; omega⟩
theorem hi_fok {r : Str} {v t : Int} (v0 : 0 ≤ v) (v1 : v ≤ 1000000000000) (t0 : 0 < t) (t1 : t ≤ 1000) : FOk (hiF r v t) := by
  unfold hiF
  split
  · exact low_ok ⟨v0, by simp only; omega, by simp only; omega, by simp only; omega⟩
  · exact low_ok ⟨by simp only; omega, by simp only; omega, by simp only; omega, by simp only; omega⟩
theorem zip_ok {vs ts : List Int} (hv : VOk vs) (ht : TOk vs ts) : ∀ p ∈ vs.zip ts, 0 ≤ p.1 ∧ p.1 ≤ 1000000000000 ∧ 0 ≤ p.2 ∧ p.2 ≤ 1000 := fun p hp => by
  obtain ⟨h1, h2⟩ := List.of_mem_zip (a := p.1) (b := p.2) hp
  exact ⟨hv.nn _ h1, hv.top _ h1, ht.nn _ h2, ht.top _ h2⟩
theorem lows_ok {r : Str} {vs ts : List Int} (hv : VOk vs) (ht : TOk vs ts) : ∀ p ∈ lowsI r vs ts, FOk p := fun p hp => by
  obtain ⟨z, hz, rfl⟩ := List.mem_map.mp hp
  obtain ⟨a, b, c, d⟩ := zip_ok hv ht z hz
  exact lo_fok a b c d
theorem highs_ok {r : Str} {vs ts : List Int} (hv : VOk vs) (ht : TOk vs ts) : ∀ p ∈ highsI r vs ts, FOk p := fun p hp => by
  obtain ⟨z, hz, rfl⟩ := List.mem_map.mp hp
  obtain ⟨hz, hp⟩ := List.mem_filter.mp hz
  obtain ⟨a, b, c, d⟩ := zip_ok hv ht z hz
  exact hi_fok a b (of_decide_eq_true hp) d
theorem lows_ne {r : Str} {vs ts : List Int} (hv : VOk vs) (ht : TOk vs ts) : lowsI r vs ts ≠ [] := fun h => by
  have h1 := congrArg List.length h
  unfold lowsI at h1
  rw [List.length_map, List.length_zip, ht.len, List.length_nil, Nat.min_self] at h1
  have := hv.lo
  omega
theorem low_gt {r : Str} {vs ts : List Int} (hv : VOk vs) (ht : TOk vs ts) : 0 < (maxF (lowsI r vs ts)).1 := by
  have hex : ∃ i, i < vs.length ∧ 0 < vs.getD i 0 := by
    apply Classical.byContradiction
    intro hn
    have := sum_le (n := vs.length) (fun i => vs.getD i 0) 0 fun i hi => by
      apply Classical.byContradiction
      intro h0
      exact hn ⟨i, hi, by omega⟩
    rw [← sum_getD] at this
    have := hv.pos
    simp at *
    omega
  obtain ⟨i, hi, hp⟩ := hex
  have hz : (vs.getD i 0, ts.getD i 0) ∈ vs.zip ts := by
    refine List.mem_of_getElem? (i := i) ?_
    rw [List.getElem?_zip_eq_some]
    have hl := ht.len
    refine ⟨?_, ?_⟩
    · show vs[i]? = some (vs.getD i 0)
      rw [List.getD_eq_getElem?_getD, List.getElem?_eq_getElem hi]
      rfl
    · show ts[i]? = some (ts.getD i 0)
      rw [List.getD_eq_getElem?_getD, List.getElem?_eq_getElem (by omega)]
      rfl
  have hm : loF r (vs.getD i 0) (ts.getD i 0) ∈ lowsI r vs ts := List.mem_map.mpr ⟨_, hz, rfl⟩
  have t0 := (ht.at i).1
  have hpos : 0 < (loF r (vs.getD i 0) (ts.getD i 0)).1 := by
    unfold loF
    split
    · exact low_pos hp (by omega)
    · exact low_pos (by omega) (by omega)
  have hok := lows_ok (r := r) hv ht
  cases hl : lowsI r vs ts with
  | nil => exact absurd hl (lows_ne hv ht)
  | cons p ps =>
    rw [hl] at hm hok
    refine fold_pos ps p (hok p List.mem_cons_self) (fun x hx => hok x (List.mem_cons_of_mem _ hx)) ?_
    rcases List.mem_cons.mp hm with e | h
    · left
      rw [← e]
      exact hpos
    · exact .inr ⟨_, h, hpos⟩
end DL

/-! V18 (k54): divisors. -/
namespace DL
open PySem PySem.Spec PyProof.Rows L2
theorem endsD_nil {r : Str} {vs ts : List Int} (h : highsI r vs ts = []) : endsD r vs ts = .tup [pairD (maxF (lowsI r vs ts)), .non] := by
  unfold endsD
  rw [h]
theorem endsD_cons {r : Str} {vs ts : List Int} (h : highsI r vs ts ≠ []) : endsD r vs ts = if belowB (minF (highsI r vs ts)) (maxF (lowsI r vs ts)) then .non else .tup [pairD (maxF (lowsI r vs ts)), pairD (minF (highsI r vs ts))] := by
  unfold endsD
  cases hh : highsI r vs ts with
  | nil => exact absurd hh h
  | cons x xs => rfl
theorem high_gt {r : Str} {vs ts : List Int} (hv : VOk vs) (ht : TOk vs ts) (h : highsI r vs ts ≠ []) (hb : belowB (minF (highsI r vs ts)) (maxF (lowsI r vs ts)) = false) : belowB (0, 1) (minF (highsI r vs ts)) = true := by
  have h1 := low_gt (r := r) hv ht
  have h2 := highs_ok (r := r) hv ht _ (min_mem h)
  have h3 := lows_ok (r := r) hv ht _ (max_mem (lows_ne hv ht))
  unfold belowB at hb ⊢
  have hb := of_decide_eq_false hb
  refine decide_eq_true ?_
  simp only [Int.zero_mul, Int.mul_one]
  have h4 := Int.mul_pos h1 h2.b0
  have a0 := h2.a0
  apply Classical.byContradiction
  intro hn
  have : (minF (highsI r vs ts)).1 = 0 := by omega
  rw [this, Int.zero_mul] at hb
  omega
theorem v_divisors (J : GJ) (ds : List D) (q : D → Prop) (_ : ds.length = 3) (h : S_divisors J ds q) : w_divisors J (startE N_divisors ds) (EndQ q) := by
  obtain ⟨r, vs, ts, rfl, hr, hv, ht, hq⟩ := h
  have n0 := hv.lo; have n1 := hv.hi; have hl := ht.len
  let e0 : En := [.val (tuI vs), .val (tuI ts), .val (.str r), .no, .no, .no, .no, .no, .no]
  refine seq_step e0 (fun E _ _ _ hE => ?_) ?_
  · simp [S_check_votes]
    exact ⟨vs, rfl, hv, hE⟩
  refine seq_step e0 (fun E _ _ _ hE => ?_) ?_
  · simp [S_is_tuple, tuI, e0]
    refine ⟨_, _, ⟨rfl, rfl⟩, by simp [hl], rfl, ?_⟩
    refine lc_map1 D.int (fun _ => .bl true) rfl ts (fun v hv' k hk => ?_) (small_sz (by omega)) ?_
    · simp [S_is_number]
      have : 0 ≤ v := ht.nn v hv'
      simpa [this] using hk
    · exact ⟨List.replicate ts.length true, by simp [List.map_const'], by simp, hE⟩
  refine seq_step e0 (fun E _ _ _ hE => ?_) ?_
  · have ec : cutD [D.str r1, D.str r2, D.str r3, D.str r4] none (some 2) = [D.str r1, D.str r2] := rfl
    simp [S_check_rule, e0]
    exact ⟨r, [r1, r2], ⟨rfl, ec⟩, hr, by decide +kernel, hE⟩
  refine seq_step [.val (tuI vs), .val (tuI ts), .val (.str r), .no, .own [], .own [], .no, .no, .no] (fun E _ _ _ hE => ?_) ?_
  · simp [e0]
    exact hE
  refine seq_stepP (fun e => ∃ s3 s6 s7, e = [.val (tuI vs), .val (tuI ts), .val (.str r), s3, .own ((lowsI r vs ts).map pairD), .own ((highsI r vs ts).map pairD), s6, s7, .no]) (fun E _ _ _ hE => ?_) fun e he => ?_
  · simp only [sFor, wZp]
    refine ⟨_, _, _, _, rfl, rfl, rfl, ?_⟩
    rw [zipD_ints]
    refine for_ind (α := Int × Int) _ (fun xs e => ∃ dn s3 s6 s7, dn ++ xs = vs.zip ts ∧ e = [.val (tuI vs), .val (tuI ts), .val (.str r), s3, .own ((dn.map fun p => loF r p.1 p.2).map pairD), .own (((dn.filter fun p => decide (p.2 > 0)).map fun p => hiF r p.1 p.2).map pairD), s6, s7, .no]) (fun e h => ?_) (fun x xs e h R hR => ?_) _ _ ⟨[], .no, .no, .no, rfl, rfl⟩
    · obtain ⟨dn, s3, s6, s7, e1, rfl⟩ := h
      rw [List.append_nil] at e1
      subst e1
      exact hE _ ⟨s3, s6, s7, rfl⟩
    · obtain ⟨dn, s3, s6, s7, e1, rfl⟩ := h
      have hx : x ∈ vs.zip ts := by
        rw [← e1]
        simp
      obtain ⟨v0, v1, t0, t1⟩ := zip_ok hv ht x hx
      have hdl : dn.length ≤ 6 := by
        have := congrArg List.length e1
        rw [List.length_append, List.length_zip] at this
        simp at this
        omega
      have fin : ∀ (s7 : Sl), R [.val (tuI vs), .val (tuI ts), .val (.str r), .val (.int x.1), .own (((dn ++ [x]).map fun p => loF r p.1 p.2).map pairD), .own ((((dn ++ [x]).filter fun p => decide (p.2 > 0)).map fun p => hiF r p.1 p.2).map pairD), .val (.int x.2), s7, .no] := fun s7 => hR _ ⟨dn ++ [x], _, _, _, by rw [← e1]; simp, rfl⟩
      refine ⟨_, rfl, rfl, _, _, rfl, _, _, rfl, rfl, ?_⟩
      refine seq_step [.val (tuI vs), .val (tuI ts), .val (.str r), .val (.int x.1), .own (((dn ++ [x]).map fun p => loF r p.1 p.2).map pairD), .own (((dn.filter fun p => decide (p.2 > 0)).map fun p => hiF r p.1 p.2).map pairD), .val (.int x.2), .val (if x.2 > 0 then pairD (hiF r x.1 x.2) else .non), .no] (fun E' _ _ _ hE' => ?_) ?_
      · simp only [List.map_append, List.map_cons, List.map_nil] at hE'
        have ll : ((dn.map fun p => loF r p.1 p.2).map pairD).length ≤ 100 := by simp; omega
        have lo1 : ((dn.map fun p => loF r p.1 p.2).map pairD).length < sizeLine := by rw [sizeLine_eq]; omega
        generalize (dn.map fun p => loF r p.1 p.2).map pairD = L at hE' lo1 ll
        generalize ((dn.filter fun p => decide (p.2 > 0)).map fun p => hiF r p.1 p.2).map pairD = M at hE'
        simp only [List.mem_cons, List.not_mem_nil, or_false] at hr
        rcases hr with rfl | rfl
        · have e1 : loF r1 x.1 x.2 = lowF x.1 (x.2 + 1) := rfl
          have e2 : hiF r1 x.1 x.2 = lowF x.1 x.2 := rfl
          rw [e1, e2] at hE'
          have f1 : FOk (x.1, x.2 + 1) := ⟨v0, by simp only; omega, by simp only; omega, by simp only; omega⟩
          simp [okE, eqD, S_lowest]
          refine ⟨_, _, ⟨rfl, rfl⟩, f1, lo1, ?_⟩
          by_cases hp : 0 < x.2
          · rw [if_pos hp] at hE'
            exact .inr ⟨hp, _, _, ⟨rfl, rfl⟩, ⟨v0, by simp only; omega, hp, by simp only; omega⟩, hE'⟩
          · rw [if_neg hp] at hE'
            exact .inl ⟨by omega, hE'⟩
        · have e1 : loF r2 x.1 x.2 = lowF (2 * x.1) (2 * x.2 + 1) := rfl
          have e2 : hiF r2 x.1 x.2 = lowF (2 * x.1) (2 * x.2 - 1) := rfl
          rw [e1, e2] at hE'
          have f1 : FOk (2 * x.1, 2 * x.2 + 1) := ⟨by simp only; omega, by simp only; omega, by simp only; omega, by simp only; omega⟩
          simp [okE, eqD, S_lowest]
          refine .inl ⟨(by decide +kernel : ¬ r2 = r1), cm (by decide) (by decide), cm (by decide) (by decide), _, _, ⟨rfl, rfl⟩, f1, lo1, ?_⟩
          by_cases hp : 0 < x.2
          · rw [if_pos hp] at hE'
            exact .inr ⟨hp, cm (by decide) (by decide), cm (by decide) (by decide), _, _, ⟨rfl, rfl⟩, ⟨by simp only; omega, by simp only; omega, by simp only; omega, by simp only; omega⟩, hE'⟩
          · rw [if_neg hp] at hE'
            exact .inl ⟨by omega, hE'⟩
      · have hm : (dn.filter fun p => decide (p.2 > 0)).length ≤ 6 := Nat.le_trans (List.length_filter_le _ _) hdl
        by_cases hp : 0 < x.2
        · have f := fin (.val (pairD (hiF r x.1 x.2)))
          rw [List.filter_append, List.filter_cons_of_pos (by simpa using hp)] at f
          simp
          rw [if_pos hp]
          refine .inr ⟨rfl, small_sz (by have := List.length_filter_le (fun p : Int × Int => decide (0 < p.2)) dn; omega), ?_⟩
          simpa using f
        · have f := fin (.val .non)
          rw [List.filter_append, List.filter_cons_of_neg (by simpa using hp)] at f
          simp
          rw [if_neg hp]
          refine .inl ⟨rfl, ?_⟩
          simpa using f
  · obtain ⟨s3, s6, s7, rfl⟩ := he
    have hne := lows_ne (r := r) hv ht
    have hok := lows_ok (r := r) hv ht
    have hok2 := highs_ok (r := r) hv ht
    refine seq_stepP (fun e => ∃ s4 s5, e = [.val (tuI vs), .val (tuI ts), .val (.str r), s3, s4, s5, s6, .val (if highsI r vs ts = [] then .non else pairD (minF (highsI r vs ts))), .val (pairD (maxF (lowsI r vs ts)))]) (fun E _ _ _ hE => ?_) fun e he => ?_
    · simp
      refine ⟨lowsI r vs ts, rfl, hne, hok, ?_⟩
      by_cases hh : highsI r vs ts = []
      · exact .inl ⟨hh, hE _ ⟨.val (.lst ((lowsI r vs ts).map pairD)), .own ((highsI r vs ts).map pairD), by rw [if_pos hh]⟩⟩
      · refine .inr ⟨List.length_pos_iff.mpr hh, highsI r vs ts, rfl, hh, hok2, hE _ ⟨.val (.lst ((lowsI r vs ts).map pairD)), .val (.lst ((highsI r vs ts).map pairD)), by rw [if_neg hh]⟩⟩
    · obtain ⟨s4, s5, rfl⟩ := he
      by_cases hh : highsI r vs ts = []
      · rw [if_pos hh]
        rw [endsD_nil hh] at hq
        simp
        exact hq
      · rw [if_neg hh]
        rw [endsD_cons hh] at hq
        have m1 := hok _ (max_mem hne)
        have m2 := hok2 _ (min_mem hh)
        have hgt := high_gt hv ht hh
        generalize maxF (lowsI r vs ts) = lo at *
        generalize minF (highsI r vs ts) = hi at *
        simp
        refine ⟨lo, hi, rfl, m1, m2, ?_⟩
        cases hb : belowB hi lo with
        | true =>
          rw [hb, if_pos rfl] at hq
          simp
          exact hq
        | false =>
          rw [hb, if_neg (by simp)] at hq
          simp
          refine ⟨(0, 1), hi, rfl, ⟨by decide, by decide, by decide, by decide⟩, m2, ?_⟩
          rw [hgt hb]
          simp
          exact hq
end DL

/-! V19 (k54): the law's divisors. -/
namespace DL
open PySem PySem.Spec PyProof.Rows L2
def mx0 (ps : List (Int × Int)) : Int × Int := ps.foldl (fun a x => if belowB a x then x else a) (0, 1)
theorem lo_zero {r : Str} {v t : Int} (t0 : 0 ≤ t) (h : (loF r v t).1 = 0) (v0 : 0 ≤ v) : loF r v t = (0, 1) := by
  have key : ∀ p q : Int, 0 ≤ p → 0 < q → (lowF p q).1 = 0 → lowF p q = (0, 1) := fun p q hp hq h => by
    obtain ⟨e1, e2⟩ := low_eq (p := p) (q := q)
    rw [h, Int.mul_zero] at e1
    subst e1
    unfold lowF gcdI
    rw [Int.gcd_zero_left]
    have : ((q.natAbs : Nat) : Int) = q := by omega
    rw [this, Int.zero_ediv, Int.ediv_self (by omega)]
  unfold loF at h ⊢
  split at h
  · rw [if_pos (by assumption)]
    exact key _ _ v0 (by omega) h
  · rw [if_neg (by assumption)]
    exact key _ _ (by omega) (by omega) h
theorem mx0_eq {r : Str} {vs ts : List Int} (hv : VOk vs) (ht : TOk vs ts) : mx0 (lowsI r vs ts) = maxF (lowsI r vs ts) := by
  have hne := lows_ne (r := r) hv ht
  have hz := zip_ok hv ht
  unfold lowsI at hne ⊢
  cases h : vs.zip ts with
  | nil =>
    rw [h] at hne
    exact absurd rfl hne
  | cons z zs =>
    obtain ⟨v0, v1, t0, t1⟩ := hz z (by rw [h]; exact List.mem_cons_self)
    have hf := lo_fok (r := r) v0 v1 t0 t1
    show List.foldl _ _ _ = List.foldl _ _ _
    rw [List.map_cons, List.foldl_cons]
    congr 1
    by_cases hp : (loF r z.1 z.2).1 = 0
    · have e := lo_zero t0 hp v0
      rw [e]
      show _ = loF r z.1 z.2
      rw [e]
      rfl
    · have : belowB (0, 1) (loF r z.1 z.2) = true := by
        unfold belowB
        have := hf.a0
        exact decide_eq_true (by simp only [Int.zero_mul, Int.mul_one]; omega)
      rw [this, if_pos rfl]
theorem minF_snoc {ps : List (Int × Int)} (h : ps ≠ []) (u : Int × Int) : minF (ps ++ [u]) = if belowB u (minF ps) then u else minF ps := by
  cases ps with
  | nil => exact absurd rfl h
  | cons p ps =>
    show List.foldl _ p (ps ++ [u]) = _
    rw [List.foldl_append]
    rfl
theorem mx0_ok {ps : List (Int × Int)} (h : ∀ p ∈ ps, FOk p) : FOk (mx0 ps) := by
  unfold mx0
  rcases fold_mem (f := fun a x => belowB a x) ps (0, 1) with e | e
  · rw [e]
    exact ⟨by decide, by decide, by decide, by decide⟩
  · exact h _ e
def hiD (ps : List (Int × Int)) : D := if ps = [] then .non else pairD (minF ps)
theorem v__law_ends (J : GJ) (ds : List D) (q : D → Prop) (_ : ds.length = 3) (h : S__law_ends J ds q) : w__law_ends J (startE N__law_ends ds) (EndQ q) := by
  obtain ⟨r, vs, ts, rfl, hr, hv, ht, hq⟩ := h
  have n0 := hv.lo; have n1 := hv.hi; have hl := ht.len
  refine seq_step [.val (tuI vs), .val (tuI ts), .val (.str r), .val (pairD (0, 1)), .val .non, .no, .no, .no, .no] (fun E _ _ _ hE => ?_) ?_
  · simpa using hE
  refine seq_stepP (fun e => ∃ s5 s6 s7 s8, e = [.val (tuI vs), .val (tuI ts), .val (.str r), .val (pairD (maxF (lowsI r vs ts))), .val (hiD (highsI r vs ts)), s5, s6, s7, s8]) (fun E _ _ _ hE => ?_) fun e he => ?_
  · simp only [sFor, wZp]
    refine ⟨_, _, _, _, rfl, rfl, rfl, ?_⟩
    rw [zipD_ints]
    refine for_ind (α := Int × Int) _ (fun xs e => ∃ dn s5 s6 s7 s8, dn ++ xs = vs.zip ts ∧ e = [.val (tuI vs), .val (tuI ts), .val (.str r), .val (pairD (mx0 (dn.map fun p => loF r p.1 p.2))), .val (hiD ((dn.filter fun p => decide (p.2 > 0)).map fun p => hiF r p.1 p.2)), s5, s6, s7, s8]) (fun e h => ?_) (fun x xs e h R hR => ?_) _ _ ⟨[], .no, .no, .no, .no, rfl, rfl⟩
    · obtain ⟨dn, s5, s6, s7, s8, e1, rfl⟩ := h
      rw [List.append_nil] at e1
      subst e1
      rw [← mx0_eq hv ht] at hE
      exact hE _ ⟨s5, s6, s7, s8, rfl⟩
    · obtain ⟨dn, s5, s6, s7, s8, e1, rfl⟩ := h
      have hz := zip_ok hv ht
      have hx : x ∈ vs.zip ts := by
        rw [← e1]
        simp
      have hdn : ∀ p ∈ dn, p ∈ vs.zip ts := fun p hp => by
        rw [← e1]
        exact List.mem_append_left _ hp
      obtain ⟨v0, v1, t0, t1⟩ := hz x hx
      have okL : ∀ p ∈ dn.map fun p => loF r p.1 p.2, FOk p := fun p hp => by
        obtain ⟨z, hz1, rfl⟩ := List.mem_map.mp hp
        obtain ⟨a, b, c, d⟩ := hz z (hdn z hz1)
        exact lo_fok a b c d
      have okH : ∀ p ∈ (dn.filter fun p => decide (p.2 > 0)).map fun p => hiF r p.1 p.2, FOk p := fun p hp => by
        obtain ⟨z, hz1, rfl⟩ := List.mem_map.mp hp
        obtain ⟨hz1, hz2⟩ := List.mem_filter.mp hz1
        obtain ⟨a, b, c, d⟩ := hz z (hdn z hz1)
        exact hi_fok a b (of_decide_eq_true hz2) d
      have lx := lo_fok (r := r) v0 v1 t0 t1
      have mL := mx0_ok okL
      have fin : ∀ (s7 s8 : Sl), R [.val (tuI vs), .val (tuI ts), .val (.str r), .val (pairD (mx0 ((dn ++ [x]).map fun p => loF r p.1 p.2))), .val (hiD (((dn ++ [x]).filter fun p => decide (p.2 > 0)).map fun p => hiF r p.1 p.2)), .val (.int x.1), .val (.int x.2), s7, s8] := fun s7 s8 => hR _ ⟨dn ++ [x], _, _, _, _, by rw [← e1]; simp, rfl⟩
      have eM : mx0 ((dn ++ [x]).map fun p => loF r p.1 p.2) = if belowB (mx0 (dn.map fun p => loF r p.1 p.2)) (loF r x.1 x.2) then loF r x.1 x.2 else mx0 (dn.map fun p => loF r p.1 p.2) := by
        unfold mx0
        rw [List.map_append, List.foldl_append]
        rfl
      rw [eM] at fin
      refine ⟨_, rfl, rfl, _, _, rfl, _, _, rfl, rfl, ?_⟩
      generalize mx0 (dn.map fun p => loF r p.1 p.2) = lo at mL fin
      refine seq_step [.val (tuI vs), .val (tuI ts), .val (.str r), .val (pairD lo), .val (hiD ((dn.filter fun p => decide (p.2 > 0)).map fun p => hiF r p.1 p.2)), .val (.int x.1), .val (.int x.2), .val (pairD (loF r x.1 x.2)), s8] (fun E' _ _ _ hE' => ?_) ?_
      · generalize hiD _ = M at hE'
        simp only [List.mem_cons, List.not_mem_nil, or_false] at hr
        rcases hr with rfl | rfl
        · simp [okE, eqD, S__law_low, S_lowest]
          exact ⟨_, _, ⟨rfl, rfl⟩, ⟨v0, by simp only; omega, by simp only; omega, by simp only; omega⟩, hE'⟩
        · simp [okE, eqD, S__law_low, S_lowest]
          exact .inl ⟨(by decide +kernel : ¬ r2 = r1), cm (by decide) (by decide), cm (by decide) (by decide), _, _, ⟨rfl, rfl⟩, ⟨by simp only; omega, by simp only; omega, by simp only; omega, by simp only; omega⟩, hE'⟩
      refine seq_step [.val (tuI vs), .val (tuI ts), .val (.str r), .val (pairD (if belowB lo (loF r x.1 x.2) then loF r x.1 x.2 else lo)), .val (hiD ((dn.filter fun p => decide (p.2 > 0)).map fun p => hiF r p.1 p.2)), .val (.int x.1), .val (.int x.2), .val (pairD (loF r x.1 x.2)), s8] (fun E' _ _ _ hE' => ?_) ?_
      · generalize hiD _ = M at hE'
        generalize loF r x.1 x.2 = dw at *
        simp
        refine ⟨lo, dw, rfl, mL, lx, ?_⟩
        cases hb : belowB lo dw with
        | true =>
          rw [hb, if_pos rfl] at hE'
          simp
          exact hE'
        | false =>
          rw [hb, if_neg (by simp)] at hE'
          simp
          exact hE'
      generalize (if belowB lo (loF r x.1 x.2) then loF r x.1 x.2 else lo) = lo2 at fin
      generalize pairD (loF r x.1 x.2) = dw
      by_cases hp : 0 < x.2
      · rw [List.filter_append, List.filter_cons_of_pos (by simpa using hp), List.map_append] at fin
        simp only [List.filter_nil, List.map_cons, List.map_nil] at fin
        have ux := hi_fok (r := r) v0 v1 hp t1
        generalize (dn.filter fun p => decide (p.2 > 0)).map (fun p => hiF r p.1 p.2) = M at okH fin
        have test : ∀ (k : Bool → En → Prop) (e : En), e[6]? = some (.val (.int x.2)) → k true e → wTB (w2 oGt (wB 6) (wOf (wC (.int 0)))) e k := by
          intro k e he hk
          simp [he, hp]
          exact hk
        simp only [sIf]
        refine test _ _ rfl ?_
        rw [if_pos rfl]
        refine seq_step [.val (tuI vs), .val (tuI ts), .val (.str r), .val (pairD lo2), .val (hiD M), .val (.int x.1), .val (.int x.2), .val dw, .val (pairD (hiF r x.1 x.2))] (fun E' _ _ _ hE' => ?_) ?_
        · generalize hiD _ = M2 at hE'
          simp only [List.mem_cons, List.not_mem_nil, or_false] at hr
          rcases hr with rfl | rfl
          · simp [okE, eqD, S__law_low, S_lowest]
            exact ⟨_, _, ⟨rfl, rfl⟩, ⟨v0, by simp only; omega, by simp only; omega, by simp only; omega⟩, hE'⟩
          · simp [okE, eqD, S__law_low, S_lowest]
            exact .inl ⟨(by decide +kernel : ¬ r2 = r1), cm (by decide) (by decide), cm (by decide) (by decide), _, _, ⟨rfl, rfl⟩, ⟨by simp only; omega, by simp only; omega, by simp only; omega, by simp only; omega⟩, hE'⟩
        have f := fin (.val dw) (.val (pairD (hiF r x.1 x.2)))
        generalize hiF r x.1 x.2 = u at *
        by_cases hM : M = []
        · subst hM
          have e1 : hiD [] = .non := rfl
          have e2 : hiD ([] ++ [u]) = pairD u := rfl
          rw [e1]
          rw [e2] at f
          simp
          exact f
        · have e1 : hiD M = pairD (minF M) := if_neg hM
          have e2 : hiD (M ++ [u]) = pairD (if belowB u (minF M) then u else minF M) := by
            unfold hiD
            rw [if_neg (by simp), minF_snoc hM]
          rw [e1]
          rw [e2] at f
          have mM := okH _ (min_mem hM)
          generalize minF M = mm at *
          simp
          refine ⟨u, mm, rfl, ux, mM, ?_⟩
          cases hb : belowB u mm with
          | true =>
            rw [hb, if_pos rfl] at f
            simp
            exact f
          | false =>
            rw [hb, if_neg (by simp)] at f
            simp
            exact f
      · rw [List.filter_append, List.filter_cons_of_neg (by simpa using hp)] at fin
        simp only [List.filter_nil, List.append_nil] at fin
        generalize hiD _ = M at fin
        simp
        exact .inl ⟨by omega, fin _ _⟩
  · obtain ⟨s5, s6, s7, s8, rfl⟩ := he
    have hne := lows_ne (r := r) hv ht
    have m1 := lows_ok (r := r) hv ht _ (max_mem hne)
    by_cases hh : highsI r vs ts = []
    · rw [endsD_nil hh] at hq
      have e1 : hiD (highsI r vs ts) = .non := if_pos hh
      rw [e1]
      simp
      exact hq
    · rw [endsD_cons hh] at hq
      have m2 := highs_ok (r := r) hv ht _ (min_mem hh)
      have e1 : hiD (highsI r vs ts) = pairD (minF (highsI r vs ts)) := if_neg hh
      rw [e1]
      generalize maxF (lowsI r vs ts) = lo at *
      generalize minF (highsI r vs ts) = hi at *
      simp
      refine ⟨hi, lo, rfl, m2, m1, ?_⟩
      cases hb : belowB hi lo with
      | true =>
        rw [hb, if_pos rfl] at hq
        simp
        exact hq
      | false =>
        rw [hb, if_neg (by simp)] at hq
        simp
        exact hq
end DL

/-! V20 (k54): the seats told have divisors; seats never fall one by one. -/
namespace DL
open PySem PySem.Spec PyProof.Rows L2
theorem step_pos {r : Str} (hr : r ∈ [r1, r2]) {h : Int} (h0 : 0 ≤ h) : 0 < stepI r h := by
  simp only [List.mem_cons, List.not_mem_nil, or_false] at hr
  rcases hr with rfl | rfl
  · show 0 < h + 1
    omega
  · show 0 < 2 * h + 1
    omega
theorem step_mono {r : Str} (hr : r ∈ [r1, r2]) (h : Int) : stepI r h ≤ stepI r (h + 1) := by
  simp only [List.mem_cons, List.not_mem_nil, or_false] at hr
  rcases hr with rfl | rfl
  · show h + 1 ≤ h + 1 + 1
    omega
  · show 2 * h + 1 ≤ 2 * (h + 1) + 1
    omega
theorem bump_at {ts : List Int} {b : Nat} (hb : b < ts.length) (i : Nat) : (bump ts b).getD i 0 = if i = b then ts.getD b 0 + 1 else ts.getD i 0 := by
  unfold bump
  rw [List.getD_eq_getElem?_getD]
  by_cases e : i = b
  · subst e
    rw [List.getElem?_set_self hb, if_pos rfl]
    rfl
  · rw [List.getElem?_set_ne (fun z => e z.symm), if_neg e, List.getD_eq_getElem?_getD]
theorem dhondt {r : Str} {vs : List Int} (hr : r ∈ [r1, r2]) (hv : VOk vs) : ∀ k, k ≤ 1000 → ∀ i j, i < vs.length → j < vs.length → 0 < (seatsI r vs k).getD j 0 →
    vs.getD i 0 * stepI r ((seatsI r vs k).getD j 0 - 1) ≤ vs.getD j 0 * stepI r ((seatsI r vs k).getD i 0)
  | 0, _, i, j, hi, hj, h => by
    have : (seatsI r vs 0).getD j 0 = 0 := by
      show (List.replicate vs.length (0 : Int)).getD j 0 = 0
      rw [List.getD_eq_getElem?_getD, List.getElem?_replicate]
      split <;> rfl
    omega
  | k + 1, hk, i, j, hi, hj, h => by
    have ih := dhondt hr hv k (by omega)
    have ht := seats_tok (r := r) hv (k := k) (by omega)
    have hn := nextI_lt (r := r) (ts := seatsI r vs k) hv.lo
    have hl := ht.len
    have hmax : ∀ i, i < vs.length → vs.getD i 0 * stepI r ((seatsI r vs k).getD (nextI r vs (seatsI r vs k)) 0) ≤ vs.getD (nextI r vs (seatsI r vs k)) 0 * stepI r ((seatsI r vs k).getD i 0) := fun i hi => by
      have h1 := next_max (r := r) ht i hi
      rw [ahead_below (hv.at i).1 (step_pos hr (ht.at i).1) (hv.at _).1 (step_pos hr (ht.at _).1)] at h1
      unfold belowB at h1
      have h1 := of_decide_eq_false h1
      exact Int.not_lt.mp h1
    have eS : seatsI r vs (k + 1) = bump (seatsI r vs k) (nextI r vs (seatsI r vs k)) := rfl
    rw [eS] at h ⊢
    generalize nextI r vs (seatsI r vs k) = b at *
    rw [bump_at (by omega)] at h ⊢
    rw [bump_at (by omega)]
    have vi := (hv.at i).1
    have vj := (hv.at j).1
    have vb := (hv.at b).1
    by_cases ej : j = b
    · subst ej
      rw [if_pos rfl, Int.add_sub_cancel]
      refine Int.le_trans (hmax i hi) ?_
      by_cases ei : i = j
      · subst ei
        rw [if_pos rfl]
        exact Int.mul_le_mul_of_nonneg_left (step_mono hr _) vi
      · rw [if_neg ei]
        exact Int.le_refl _
    · rw [if_neg ej] at h ⊢
      refine Int.le_trans (ih i j hi hj h) ?_
      by_cases ei : i = b
      · subst ei
        rw [if_pos rfl]
        exact Int.mul_le_mul_of_nonneg_left (step_mono hr _) vj
      · rw [if_neg ei]
        exact Int.le_refl _
theorem zip_at {vs ts : List Int} (ht : ts.length = vs.length) {p : Int × Int} (h : p ∈ vs.zip ts) : ∃ i, i < vs.length ∧ p = (vs.getD i 0, ts.getD i 0) := by
  obtain ⟨i, hi⟩ := List.mem_iff_getElem?.mp h
  rw [List.getElem?_zip_eq_some] at hi
  have hl := (List.getElem?_eq_some_iff.mp hi.1).1
  refine ⟨i, hl, Prod.ext ?_ ?_⟩
  · show p.1 = vs.getD i 0
    rw [List.getD_eq_getElem?_getD, hi.1]
    rfl
  · show p.2 = ts.getD i 0
    rw [List.getD_eq_getElem?_getD, hi.2]
    rfl
/-- what is told has divisors -/
theorem ends_some {r : Str} {vs : List Int} (hr : r ∈ [r1, r2]) (hv : VOk vs) {k : Nat} (hk : k ≤ 1000) : isNonD (endsD r vs (seatsI r vs k)) = false := by
  have ht := seats_tok (r := r) hv hk
  by_cases hh : highsI r vs (seatsI r vs k) = []
  · rw [endsD_nil hh]
    rfl
  · rw [endsD_cons hh]
    have hb : belowB (minF (highsI r vs (seatsI r vs k))) (maxF (lowsI r vs (seatsI r vs k))) = false := by
      obtain ⟨z, hz, e1⟩ := List.mem_map.mp (min_mem hh)
      obtain ⟨w, hw, e2⟩ := List.mem_map.mp (max_mem (lows_ne (r := r) hv ht))
      obtain ⟨hz, hp⟩ := List.mem_filter.mp hz
      have hp := of_decide_eq_true hp
      obtain ⟨j, hj, rfl⟩ := zip_at ht.len hz
      obtain ⟨i, hi, rfl⟩ := zip_at ht.len hw
      have hd := dhondt hr hv k hk i j hi hj hp
      have ti := (ht.at i).1
      show belowB (minF ((List.filter (fun p => decide (p.2 > 0)) (vs.zip (seatsI r vs k))).map fun p => hiF r p.1 p.2)) (maxF ((vs.zip (seatsI r vs k)).map fun p => loF r p.1 p.2)) = false
      rw [← e1, ← e2]
      simp only at hp ⊢
      generalize (seatsI r vs k).getD j 0 = tj at *
      generalize (seatsI r vs k).getD i 0 = tt at *
      generalize vs.getD j 0 = vj at *
      generalize vs.getD i 0 = vi at *
      simp only [List.mem_cons, List.not_mem_nil, or_false] at hr
      rcases hr with rfl | rfl
      · have hd : vi * (tj - 1 + 1) ≤ vj * (tt + 1) := hd
        rw [Int.sub_add_cancel] at hd
        exact low_below (by omega) (by omega) hd
      · have hd : vi * (2 * (tj - 1) + 1) ≤ vj * (2 * tt + 1) := hd
        rw [show 2 * (tj - 1) + 1 = 2 * tj - 1 by omega] at hd
        refine low_below (by omega) (by omega) ?_
        rw [Int.mul_assoc, Int.mul_assoc]
        exact Int.mul_le_mul_of_nonneg_left hd (by decide)
    rw [hb, if_neg (by simp)]
    rfl
theorem seats_grow {r : Str} {vs : List Int} (hv : VOk vs) {k : Nat} (hk : k ≤ 1000) (i : Nat) : (seatsI r vs k).getD i 0 ≤ (seatsI r vs (k + 1)).getD i 0 := by
  have ht := seats_tok (r := r) hv hk
  have hn := nextI_lt (r := r) (ts := seatsI r vs k) hv.lo
  show _ ≤ (bump (seatsI r vs k) (nextI r vs (seatsI r vs k))).getD i 0
  rw [bump_at (by rw [ht.len]; exact hn)]
  split
  · rename_i e
    rw [e]
    omega
  · exact Int.le_refl _
end DL

/-! V21 (k54): are the seats right (under way). -/
namespace DL
open PySem PySem.Spec PyProof.Rows L2
theorem okEA_ints (xs : List Int) : okE 60 (tuI xs) = true := by
  have := okE_ints xs
  simpa [tuI, okE] using this
theorem okS_ints : ∀ xs : List Int, (∀ x ∈ xs, 0 ≤ x ∧ x ≤ 300000000000001) → okSA (xs.map D.int) = true
  | [], _ => rfl
  | x :: xs, h => by
    have ih := okS_ints xs fun y hy => h y (List.mem_cons_of_mem _ hy)
    have hx := h x List.mem_cons_self
    simp only [List.map_cons, okSA, okS, ih, Bool.and_true]
    refine decide_eq_true ?_
    by_cases h0 : x.natAbs = 0
    · rw [h0]
      decide
    · have := (Nat.log2_lt h0 (k := 64)).mpr (by omega)
      omega
theorem rlA_ints : ∀ xs : List Int, rlA (xs.map D.int) = xs.length * 1923
  | [] => rfl
  | x :: xs => by
    simp only [List.map_cons, rlA, rl, rlA_ints xs, List.length_cons]
    omega
/-- a row of short numbers can be shown -/
theorem like_ints (xs : List Int) (h : ∀ x ∈ xs, 0 ≤ x ∧ x ≤ 300000000000001) (hl : xs.length ≤ 6) : okE 60 (tuI xs) = true ∧ okS (tuI xs) = true ∧ rl (tuI xs) ≤ sizeLine := by
  refine ⟨okEA_ints xs, ?_, ?_⟩
  · show okSA _ = true
    exact okS_ints xs h
  · show rlA (xs.map D.int) + 4 ≤ _
    rw [rlA_ints, sizeLine_eq]
    omega
theorem raw_len {r : Str} {vs : List Int} (hv : VOk vs) (m : Int) : (rawI r vs m).length = vs.length := by
  unfold rawI
  split
  · exact rest_len vs m
  · exact (seats_ok (r := r) hv.lo m.toNat).1
theorem raw_ok {r : Str} {vs : List Int} (hv : VOk vs) {m : Int} (h0 : 0 ≤ m) (h1 : m ≤ 201) : ∀ x ∈ rawI r vs m, 0 ≤ x ∧ x ≤ 300000000000001 := by
  intro x hx
  unfold rawI at hx
  split at hx
  · obtain ⟨i, hi, rfl⟩ := List.mem_map.mp hx
    have v := hv.at i
    have hp := hv.pos
    have e1 : 0 ≤ vs.getD i 0 * m := Int.mul_nonneg v.1 h0
    have e2 : vs.getD i 0 * m ≤ 1000000000000 * 201 := Int.mul_le_mul v.2 h1 h0 (by decide)
    have e3 : 0 ≤ baseI vs m i := Int.ediv_nonneg e1 (by omega)
    have e4 : baseI vs m i ≤ vs.getD i 0 * m := Int.ediv_le_self _ e1
    split <;> omega
  · obtain ⟨_, h⟩ := seats_ok (r := r) hv.lo m.toNat
    have := h x hx
    omega
theorem okS_int {x : Int} (h0 : 0 ≤ x) (h1 : x ≤ 300000000000001) : okS (.int x) = true := by
  refine decide_eq_true ?_
  by_cases h : x.natAbs = 0
  · rw [h]
    decide
  · have := (Nat.log2_lt h (k := 64)).mpr (by omega)
    omega
theorem okS_pair {p : Int × Int} (h : FOk p) : okS (pairD p) = true := by
  have a0 := h.a0; have a1 := h.a1; have b0 := h.b0; have b1 := h.b1
  show okSA [.int p.1, .int p.2] = true
  simp only [okSA, okS_int (x := p.1) a0 (by omega), okS_int (x := p.2) (by omega) (by omega)]
  rfl
theorem like_ends {r : Str} {vs ts : List Int} (hv : VOk vs) (ht : TOk vs ts) : okE 60 (endsD r vs ts) = true ∧ okS (endsD r vs ts) = true ∧ rl (endsD r vs ts) ≤ sizeLine := by
  have m1 := lows_ok (r := r) hv ht _ (max_mem (lows_ne (r := r) hv ht))
  have s1 := okS_pair m1
  by_cases hh : highsI r vs ts = []
  · rw [endsD_nil hh]
    refine ⟨rfl, ?_, ?_⟩
    · show okSA [pairD _, .non] = true
      simp only [okSA, s1]
      rfl
    · show rlA [pairD _, .non] + 4 ≤ _
      rw [sizeLine_eq]
      simp [rlA, rl]
  · rw [endsD_cons hh]
    have m2 := highs_ok (r := r) hv ht _ (min_mem hh)
    have s2 := okS_pair m2
    split
    · refine ⟨rfl, rfl, ?_⟩
      rw [sizeLine_eq]
      simp [rl]
    · refine ⟨rfl, ?_, ?_⟩
      · show okSA [pairD _, pairD _] = true
        simp only [okSA, s1, s2]
        rfl
      · show rlA [pairD _, pairD _] + 4 ≤ _
        rw [sizeLine_eq]
        simp [rlA, rl]
end DL

/-! V22 (k54): are the seats right, the walk (under way). -/
namespace DL
open PySem PySem.Spec PyProof.Rows L2
theorem v__law_are_seats_right (J : GJ) (ds : List D) (q : D → Prop) (_ : ds.length = 2) (h : S__law_are_seats_right J ds q) : w__law_are_seats_right J (startE N__law_are_seats_right ds) (EndQ q) := by
  obtain ⟨a, vs, rfl, hJ, hv, hq⟩ := h
  have n0 := hv.lo; have n1 := hv.hi
  refine seq_stepP (fun e => ∃ m : Int, 0 ≤ m ∧ m ≤ 200 ∧ e = [.val (.tk a), .val (tuI vs), .val (.int m), .no, .no, .no, .no, .no, .no, .no, .no, .no, .no, .no, .no]) (fun E _ _ _ hE => ?_) fun e he => ?_
  · simp [S__law_draw]
    refine ⟨a, _, ⟨rfl, rfl⟩, hJ, by decide, by decide, fun d d0 d1 => ?_⟩
    simp [S__law_any]
    refine ⟨a, _, ⟨rfl, rfl⟩, hJ, by simp, by simp, fun x hx => ?_⟩
    simp only [List.mem_cons, List.not_mem_nil, or_false] at hx
    rcases hx with rfl | rfl | rfl | rfl | rfl | rfl
    · exact hE _ ⟨_, by decide, by decide, rfl⟩
    · exact hE _ ⟨_, by decide, by decide, rfl⟩
    · exact hE _ ⟨_, by decide, by decide, rfl⟩
    · exact hE _ ⟨_, by decide, by decide, rfl⟩
    · exact hE _ ⟨_, by decide, by decide, rfl⟩
    · exact hE _ ⟨_, d0, by omega, rfl⟩
  obtain ⟨m, m0, m1, rfl⟩ := he
  refine seq_stepP (fun e => ∃ s3 s4 s5, e = [.val (.tk a), .val (tuI vs), .val (.int m), s3, s4, s5, .no, .no, .no, .no, .no, .no, .no, .no, .no]) (fun E hrt _ _ hE => ?_) fun e he => ?_
  · simp only [sFor, wIs]
    refine ⟨_, rfl, by simp, ?_⟩
    refine for_ind (α := Str) D.str (fun xs e => (∀ x ∈ xs, x ∈ [r1, r2, r3, r4]) ∧ ∃ s3 s4 s5, e = [.val (.tk a), .val (tuI vs), .val (.int m), s3, s4, s5, .no, .no, .no, .no, .no, .no, .no, .no, .no]) (fun e h => hE _ h.2) (fun r xs e h R hR => ?_) [r1, r2, r3, r4] _ ⟨fun x hx => hx, .no, .no, .no, rfl⟩
    obtain ⟨hr, s3, s4, s5, rfl⟩ := h
    have hr1 := hr r List.mem_cons_self
    have raw := raw_ok (r := r) hv m0 (by omega : m ≤ 201)
    obtain ⟨k1, k2, k3⟩ := like_ints (rawI r vs m) raw (by rw [raw_len hv]; exact n1)
    refine seq_step [.val (.tk a), .val (tuI vs), .val (.int m), .val (.str r), .val (tuI (rawI r vs m)), s5, .no, .no, .no, .no, .no, .no, .no, .no, .no] (fun E' _ _ _ hE' => ?_) ?_
    · simp
      exact ⟨r, vs, m, rfl, hr1, hv, m0, by omega, hE'⟩
    refine seq_step [.val (.tk a), .val (tuI vs), .val (.int m), .val (.str r), .val (tuI (rawI r vs m)), s5, .no, .no, .no, .no, .no, .no, .no, .no, .no] (fun E' _ _ _ hE' => ?_) ?_
    · simp
      refine ⟨r, vs, m, rfl, hr1, hv, m0, m1, ?_⟩
      refine ⟨_, rfl, k1, k2, k3, ?_⟩
      simp
      exact hE'
    refine seq_step [.val (.tk a), .val (tuI vs), .val (.int m), .val (.str r), .val (tuI (rawI r vs m)), .val (tuI (rawI r vs (m + 1))), .no, .no, .no, .no, .no, .no, .no, .no, .no] (fun E' _ _ _ hE' => ?_) ?_
    · simp
      exact ⟨r, vs, m + 1, rfl, hr1, hv, by omega, by omega, hE'⟩
    have fin := hR _ ⟨fun x hx => hr x (List.mem_cons_of_mem _ hx), .val (.str r), .val (tuI (rawI r vs m)), .val (tuI (rawI r vs (m + 1))), rfl⟩
    have hok : PyData.strOk r = true := by
      simp only [List.mem_cons, List.not_mem_nil, or_false] at hr1
      rcases hr1 with rfl | rfl | rfl | rfl <;> decide +kernel
    have hok2 : okEA 59 [D.str r1, D.str r2] = true := by
      simp only [okEA, okE]
      decide +kernel
    have hin : inD (.str r) [D.str r1, D.str r2] = true → r ∈ [r1, r2] := fun h => by
      unfold inD at h
      simp [eqD] at h
      simp
      rcases h with h | h
      · exact .inl h.symm
      · exact .inr h.symm
    simp [-zipD, -inD, okE, tuI]
    refine ⟨hok, ⟨by decide +kernel, by decide +kernel⟩, ?_⟩
    cases hi : inD (.str r) [D.str r1, D.str r2] with
    | false => exact .inl ⟨rfl, fin⟩
    | true =>
      have h2 := hin hi
      refine .inr ⟨rfl, _, _, ⟨rfl, rfl⟩, _, rfl, _, rfl, rfl, ?_⟩
      rw [zipD_ints]
      refine lc_gen (α := Int × Int) _ (fun p => .bl (decide (p.1 > p.2))) (fun _ => true) (fun p => [.val (.tk a), .val (tuI vs), .val (.int m), .val (.str r), .val (tuI (rawI r vs m)), .val (tuI (rawI r vs (m + 1))), .val (.int p.1), .val (.int p.2), .no, .no, .no, .no, .no, .no, .no]) (fun i => rfl) _ _ (fun p hp' k hk => ?_) (fun i hi k hk => hk) (fun p hp' _ k hk => ?_) (by simp [raw_len hv]; exact small_sz (by omega)) ?_
      · exact ⟨_, rfl, rfl, _, _, rfl, _, _, rfl, rfl, hk⟩
      · simpa using hk
      · rw [filter_yes, List.nil_append]
        refine ⟨((rawI r vs m).zip (rawI r vs (m + 1))).map fun p => decide (p.1 > p.2), by rw [List.map_map]; rfl, .inl ⟨fun hm => ?_, fin⟩⟩
        obtain ⟨p, hp, hd⟩ := List.mem_map.mp hm
        have hd := of_decide_eq_true hd
        have h4 : r ≠ r4 := by
          simp only [List.mem_cons, List.not_mem_nil, or_false] at h2
          rcases h2 with rfl | rfl <;> decide +kernel
        have e1 : rawI r vs m = seatsI r vs m.toNat := if_neg h4
        have e2 : rawI r vs (m + 1) = seatsI r vs (m.toNat + 1) := by
          unfold rawI
          rw [if_neg h4]
          congr 1
          omega
        rw [e1, e2] at hp
        obtain ⟨i, hi⟩ := List.mem_iff_getElem?.mp hp
        rw [List.getElem?_zip_eq_some] at hi
        have hg := seats_grow (r := r) hv (k := m.toNat) (by omega) i
        rw [List.getD_eq_getElem?_getD, List.getD_eq_getElem?_getD, hi.1, hi.2] at hg
        have hg : p.1 ≤ p.2 := hg
        omega
  · obtain ⟨s3, s4, s5, rfl⟩ := he
    refine seq_stepP (fun _ => True) (fun E hrt _ _ hE => ?_) fun e _ => by simpa using hq
    simp only [sFor, wIs]
    refine ⟨_, rfl, by simp, ?_⟩
    refine for_ind (α := Str) D.str (fun xs e => (∀ x ∈ xs, x ∈ [r1, r2]) ∧ ∃ s3 s8 s9 s10 s11 s13 s14, e = [.val (.tk a), .val (tuI vs), .val (.int m), s3, s4, s5, .no, .no, s8, s9, s10, s11, .no, s13, s14]) (fun e h => hE _ trivial) (fun r xs e h R hR => ?_) [r1, r2] _ ⟨fun x hx => hx, s3, .no, .no, .no, .no, .no, .no, rfl⟩
    obtain ⟨hr, s3, s8, s9, s10, s11, s13, s14, rfl⟩ := h
    have hr1 := hr r List.mem_cons_self
    have h4 : r ≠ r4 := by
      simp only [List.mem_cons, List.not_mem_nil, or_false] at hr1
      rcases hr1 with rfl | rfl <;> decide +kernel
    have e1 : rawI r vs m = seatsI r vs m.toNat := if_neg h4
    have ht := seats_tok (r := r) hv (k := m.toNat) (by omega)
    have hs := ends_some hr1 hv (k := m.toNat) (by omega)
    have htop : ∀ t ∈ seatsI r vs m.toNat, t ≤ 200 := fun t h => by have := ((seats_ok (r := r) hv.lo m.toNat).2 t h).2; omega
    generalize seatsI r vs m.toNat = ts at *
    have hl := ht.len
    refine seq_step [.val (.tk a), .val (tuI vs), .val (.int m), .val (.str r), s4, s5, .no, .no, .val (tuI ts), s9, s10, s11, .no, s13, s14] (fun E' _ _ _ hE' => ?_) ?_
    · simp
      refine ⟨r, vs, m, rfl, ?_, hv, m0, by omega, ?_⟩
      · simp only [List.mem_cons, List.not_mem_nil, or_false] at hr1 ⊢
        rcases hr1 with h | h
        · exact .inl h
        · exact .inr (.inl h)
      · rw [e1]
        exact hE'
    refine seq_stepP (fun e => ∃ at_ to_ : Int, e = [.val (.tk a), .val (tuI vs), .val (.int m), .val (.str r), s4, s5, .no, .no, .val (tuI ts), .val (.int at_), .val (.int to_), s11, .no, s13, s14]) (fun E' _ _ _ hE' => ?_) fun e he => ?_
    · simp [S__law_draw, tuI]
      exact ⟨a, _, ⟨rfl, rfl⟩, hJ, by omega, by omega, fun x x0 x1 => ⟨a, _, ⟨rfl, rfl⟩, hJ, by omega, by omega, fun y y0 y1 => hE' _ ⟨x, y, rfl⟩⟩⟩
    obtain ⟨at_, to_, rfl⟩ := he
    refine seq_stepP (fun e => ∃ mv, TOk vs mv ∧ e = [.val (.tk a), .val (tuI vs), .val (.int m), .val (.str r), s4, s5, .no, .no, .val (tuI ts), .val (.int at_), .val (.int to_), .val (tuI mv), .no, s13, s14]) (fun E' _ _ _ hE' => ?_) fun e he => ?_
    · simp [-enD, tuI]
      refine ⟨rfl, ?_⟩
      rw [enD_ints]
      let w : Nat → Int := fun i => ts.getD i 0 + (if ((i : Nat) : Int) = to_ then 1 else 0) - (if ((i : Nat) : Int) = at_ then 1 else 0)
      refine lc_gen (α := Nat) _ (fun i => .int (if 0 < w i then w i else 0)) (fun _ => true) (fun i => [.val (.tk a), .val (tuI vs), .val (.int m), .val (.str r), s4, s5, .val (.int (ts.getD i 0)), .no, .val (tuI ts), .val (.int at_), .val (.int to_), s11, .val (.int (i : Nat)), s13, s14]) (fun i => rfl) _ _ (fun i hi k hk => ?_) (fun i hi k hk => hk) (fun i hi hp k hk => ?_) (by simp; exact small_sz (by omega)) ?_
      · exact ⟨_, rfl, rfl, _, _, rfl, _, _, rfl, rfl, hk⟩
      · simp [okE, eqD, -List.getD_eq_getElem?_getD]
        simpa [w, -List.getD_eq_getElem?_getD] using hk
      · rw [filter_yes, List.nil_append]
        have e : (List.range ts.length).map (fun i => D.int (if 0 < w i then w i else 0)) = ((List.range ts.length).map fun i => if 0 < w i then w i else 0).map D.int := by
          rw [List.map_map]
          rfl
        rw [e]
        have hw : ∀ i, w i ≤ 1000 := fun i => by
          have h1 : ts.getD i 0 ≤ 200 := by
            by_cases h : i < ts.length
            · exact htop _ (getD_mem h)
            · rw [List.getD_eq_getElem?_getD, List.getElem?_eq_none (by omega)]
              decide
          show ts.getD i 0 + (if ((i : Nat) : Int) = to_ then 1 else 0) - (if ((i : Nat) : Int) = at_ then 1 else 0) ≤ 1000
          split <;> split <;> omega
        exact hE' _ ⟨_, ⟨by simp [hl], fun t ht => by
          obtain ⟨i, _, rfl⟩ := List.mem_map.mp ht
          split <;> omega, fun t ht => by
          obtain ⟨i, _, rfl⟩ := List.mem_map.mp ht
          have := hw i
          split <;> omega⟩, rfl⟩
    obtain ⟨mv, hmv, rfl⟩ := he
    refine seq_stepP (fun e => ∃ dr, TOk vs dr ∧ e = [.val (.tk a), .val (tuI vs), .val (.int m), .val (.str r), s4, s5, .no, .no, .val (tuI ts), .val (.int at_), .val (.int to_), .val (tuI mv), .no, .val (tuI dr), s14]) (fun E' _ _ _ hE' => ?_) fun e he => ?_
    · simp [tuI]
      refine ⟨rfl, ?_⟩
      refine lc_draw (α := Int) D.int (fun r => 0 ≤ r ∧ r < 9) rfl ts [] (fun x hx k hk => ?_) (small_sz (by simp; omega)) fun ns h1 h2 => ?_
      · simp [S__law_any, S__law_draw]
        refine ⟨a, _, ⟨rfl, rfl⟩, hJ, by simp, by simp, fun d hd => ?_⟩
        simp only [List.mem_cons, List.not_mem_nil, or_false] at hd
        rcases hd with rfl | rfl
        · exact ⟨a, _, ⟨rfl, rfl⟩, hJ, by decide, by decide, fun r r0 r1 => hk r ⟨r0, by omega⟩⟩
        · exact ⟨a, _, ⟨rfl, rfl⟩, hJ, by decide, by decide, fun r r0 r1 => hk r ⟨r0, by omega⟩⟩
      · exact hE' _ ⟨ns, ⟨by omega, fun t ht => (h2 t ht).1, fun t ht => by have := (h2 t ht).2; omega⟩, rfl⟩
    obtain ⟨dr, hdr, rfl⟩ := he
    refine seq_stepP (fun e => ∃ s14, e = [.val (.tk a), .val (tuI vs), .val (.int m), .val (.str r), s4, s5, .no, .no, .val (tuI ts), .val (.int at_), .val (.int to_), .val (tuI mv), .no, .val (tuI dr), s14]) (fun E' hrt' _ _ hE' => ?_) fun e he => ?_
    · have hz : TOk vs (List.replicate ts.length 0) := ⟨by simp [hl], fun t ht => by rw [List.eq_of_mem_replicate ht]; decide, fun t ht => by rw [List.eq_of_mem_replicate ht]; decide⟩
      have ez : (List.replicate ts.length [D.int 0]).flatten = (List.replicate ts.length (0 : Int)).map D.int := by
        generalize ts.length = c
        induction c with
        | zero => rfl
        | succ c ih => rw [List.replicate_succ, List.replicate_succ, List.flatten_cons, ih]; rfl
      have key : forGo (gN 14) (sIf (wTNot (wTB (wCall J S__law_like 2 (wCons (wOf (wCall J S_divisors 3 (wCons (wOf (wVar 1)) (wCons (wOf (wVar 14)) (wCons (wOf (wVar 3)) wNil))))) (wCons (wOf (wCall J S__law_ends 3 (wCons (wOf (wVar 1)) (wCons (wOf (wVar 14)) (wCons (wOf (wVar 3)) wNil))))) wNil))))) (sRet (wC (.bl false))) sNil) E' ([ts, mv, dr, List.replicate ts.length 0].map tuI) [.val (.tk a), .val (tuI vs), .val (.int m), .val (.str r), s4, s5, .no, .no, .val (tuI ts), .val (.int at_), .val (.int to_), .val (tuI mv), .no, .val (tuI dr), s14] := by
        refine for_ind (α := List Int) tuI (fun xs e => (∀ x ∈ xs, TOk vs x) ∧ ∃ s14, e = [.val (.tk a), .val (tuI vs), .val (.int m), .val (.str r), s4, s5, .no, .no, .val (tuI ts), .val (.int at_), .val (.int to_), .val (tuI mv), .no, .val (tuI dr), s14]) (fun e h => hE' _ h.2) (fun x xs e h R hR => ?_) _ _ ⟨fun x hx => ?_, s14, rfl⟩
        · obtain ⟨hx, s14, rfl⟩ := h
          have hx1 := hx x List.mem_cons_self
          obtain ⟨k1, k2, k3⟩ := like_ends (r := r) hv hx1
          simp
          refine ⟨r, vs, x, rfl, hr1, hv, hx1, r, vs, x, rfl, hr1, hv, hx1, endsD r vs x, rfl, k1, k2, k3, ?_⟩
          simp
          exact hR _ ⟨fun y hy => hx y (List.mem_cons_of_mem _ hy), _, rfl⟩
        · simp only [List.mem_cons, List.not_mem_nil, or_false] at hx
          rcases hx with rfl | rfl | rfl | rfl
          · exact ht
          · exact hmv
          · exact hdr
          · exact hz
      simp only [sFor, wIs]
      have key2 := key
      simp only [List.map_cons, List.map_nil] at key2
      simp [tuI]
      refine ⟨by omega, by omega, ?_⟩
      have ez2 : (List.replicate ts.length (0 : Int)).map D.int = List.replicate ts.length (D.int 0) := by simp
      rw [← ez2]
      exact key2
    · obtain ⟨s14, rfl⟩ := he
      simp
      have hfin := hR _ ⟨fun x hx => hr x (List.mem_cons_of_mem _ hx), .val (.str r), .val (tuI ts), .val (.int at_), .val (.int to_), .val (tuI mv), .val (tuI dr), s14, rfl⟩
      refine ⟨r, vs, ts, rfl, hr1, hv, ht, ?_⟩
      generalize endsD r vs ts = d at hs
      cases d <;> first | (cases hs; done) | exact hfin
end DL

/-! X5: the hand is made of the script. -/
namespace DL
open PySem PySem.Spec PyProof.Rows L2
abbrev st__law_hand : Stmt := topS 35
abbrev N__law_hand : List Str := ["script", "cells", "cell"]
theorem sc__law_hand : FnScope N__law_hand ["script"] (defScope st__law_hand) := ⟨rfl, rfl, rfl, by decide +kernel, rfl, by decide +kernel, by decide +kernel⟩
def spHand (K : PySem.W.Frag) (T : List Addr) : Sp := fun vs H Q _ => ∃ (a : Addr) (ns : List Int), vs = [.ref a] ∧ SqL K H a (ns.map V.int) ∧ ns.length ≤ 63 ∧ (∀ b ∈ T, H b = some (.tbl #[])) ∧
  ∀ (H' : Hp) (b c : Addr) (cells : List Int) (n : Int), (∀ b ∈ T, H' b = some (.tbl #[])) → b ∉ T → b ≠ c → cells.length ≤ 63 → (∀ z ∈ cells, 0 ≤ z) → H' c = some (.lst (cells.map V.int)) → H' b = some (.lst [.ref c, .int 0, .int 0, .int n, .int 0]) → Q (.ref b) H'
def cellOf (z : Int) : Int := (if z < 0 then -z else z) % 10 ^ 40
section
variable {g : Bool} {P : Program} {w : World} {K : PySem.W.Frag} {mg : Str → Option Value} {base : Heap}
/-- tables that nobody writes at -/
def tabJ (T : List Addr) : GJ := ⟨fun b => b ∈ T, fun _ H => ∀ b ∈ T, H b = some (.tbl #[]), fun _ H b i m => by rw [i b m]; simp, fun _ H _ H' i _ e _ b m => (e b m).trans (i b m)⟩
/-- the cells, made of the script -/
def tCells (K : PySem.W.Frag) (T : List Addr) : TS := fun Z σ H => ∃ (a : Addr) (ns : List Int), σ = L2.start N__law_hand [.ref a] ∧ SqL K H a (ns.map V.int) ∧ ns.length ≤ 63 ∧ (∀ b ∈ T, H b = some (.tbl #[])) ∧
  ∀ (p : Addr) (H' : Hp), (∀ b ∈ T, H' b = some (.tbl #[])) → p ∉ T → H' p = some (.lst ((ns.map cellOf).map V.int)) → Z.nx [some (.ref a), some (.ref p), none] H'
theorem ps_cells {T : List Addr} {f : Addr} {cd : Value} {A : Around} {outer : List Env} {s : Shared} {H : Hp} {E : XK} (G : Glo K mg) {st : Stmt} {rest : List Stmt} (hst : defBody st__law_hand = st :: rest) : PS (cxOf L2.CX0 P w K mg base N__law_hand "_law_hand" (defScope st__law_hand) f cd A outer s H E) st (tCells K T) := by
  have nd : N__law_hand.Nodup := sc__law_hand.nd
  obtain ⟨rfl, rfl⟩ := List.cons.inj hst
  refine PS.imp (ps_setLc (i := 1) (g := tG K mg (tabJ T) [2] (gN 2)) (tt := xT K mg (tabJ T) wYes) (te := xE K mg (tabJ T) (w2 oMod (wOf (wPr oInt (wCons (wOf (wPr oAbs (wCons (wOf (wPr oInt (wCons (wB 2) wNil))) wNil))) wNil))) (wOf (w2 oPow (wOf (wC (.int 10))) (wOf (wC (.int 40)))))))
      rfl nd rfl rfl rfl (pi_list (pe_slice sl_list (pv 0) po_none (po_some pe_int))) (blkOk_by (own := [("cell", 2)]) (by kernel_rfl)) (fun _ _ _ _ _ => (dg_name (J := (tabJ T)) 2 (L2.pg_name nd rfl (.inl rfl))).run) (fun _ _ _ _ _ => dts_nil.x)
      (fun _ _ _ _ _ => (de_op (J := (tabJ T)) od_mod (db_of (de_callTy cd_int (by rfl) G.b_int PyProof.Rows.boot_int (da_cons (db_of (de_callB cd_abs (by rfl) G.b_abs PyProof.Rows.boot_abs (da_cons (db_of (de_callTy cd_int (by rfl) G.b_int PyProof.Rows.boot_int (da_cons (db_var 2 (pv 2)) da_nil))) da_nil))) da_nil))) (db_of (de_op od_pow (db_of de_int) (db_of de_int)))).x))
    fun Z σ H ⟨a, ns, hσ, hS, hlen, hT, k⟩ => ?_
  subst hσ
  -- the slice
  refine ⟨.ref a, rfl, 63, rfl, a, ns.map V.int, rfl, hS, fun q nq => ?_⟩
  have cut : cutV (ns.map V.int) none (some 63) = ns.map V.int := by
    unfold cutV
    rw [show (63 : Int) = ((63 : Nat) : Int) by rfl, HT.sIx_nat, HT.sIx_none]
    rw [List.length_map, Nat.min_eq_right hlen]
    simp
    exact List.take_of_length_le (by simp)
  rw [cut]
  refine ⟨q, rfl, ⟨_, .inl (.inl upd_same)⟩, ?_⟩
  have st0 : St8 (tabJ T) (fun _ => none) (fun _ => none) H := ⟨fun _ _ h => (by cases h), fun _ _ h => (by cases h), hT, fun _ _ => ⟨rfl, rfl⟩, fun _ _ h => h.elim (fun h => by cases h) fun h => by cases h⟩
  have st1 := (st0.laid (o := .lst (ns.map V.int)) nq nt_lst).st
  have R1 : Rep K mg (tabJ T) (fun _ => none) [.no, .no, .no] (L2.start N__law_hand [.ref a]) (upd (fun _ => none) q (.lst (ns.map V.int))) (upd H q (.lst (ns.map V.int))) := by
    refine ⟨st1, rfl, fun i s o e1 e2 => ?_, fun i j s t ne e1 e2 hs ht => ?_⟩
    · match i, e1 with
      | 0, e1 => cases e1; trivial
      | 1, e1 => cases e1; trivial
      | 2, e1 => cases e1; trivial
      | i + 3, e1 => cases e1
    · match i, e1 with
      | 0, e1 => cases e1; cases hs
      | 1, e1 => cases e1; cases hs
      | 2, e1 => cases e1; cases hs
      | i + 3, e1 => cases e1
  refine lc_rest (Q := fun x H1 => L2.gName 1 x (L2.start N__law_hand [.ref a]) H1 Z.nx) (fin := fun acc _ => acc = (ns.map cellOf).map D.int) R1 (fun pr' => itOk_list upd_same isA_ints) (by simp; rfl) ?_ ?_
  · refine lc_map1 D.int (fun z => .int (cellOf z)) rfl ns (fun z _ k' hk' => ?_) (small_sz (by omega)) (by simp)
    simp
    exact ⟨⟨by decide, by decide, by decide⟩, by simpa [cellOf] using hk'⟩
  · intro acc env' va p F' H' R' ss hp mm al ia hacc
    subst hacc
    have ev := ia.ints
    subst ev
    exact k p H' R'.st.inv mm.m hp
theorem fn_hand {T : List Addr} {f : Addr} {fd : FuncData} (G : Glo K mg) (Fu : L2.Fun K "_law_hand" "_law_hand" st__law_hand f fd) : FnG g P w K mg base L2.CX0 1 f fd ["script"] (spHand K T) := by
  refine fnG_of Fu sc__law_hand (fun vs H Q E ⟨a, ns, h, _⟩ => by rw [h]; rfl) fun cd A outer s H vs Q E hr ⟨a, ns, hv, hS, hlen, hT, k⟩ => ?_
  subst hv
  refine ⟨_, pss_cons (ps_cells (T := T) G rfl)
    (pss_one (ps_ret (pe_lst (pa_cons (pv 1) (pa_cons pe_int (pa_cons pe_int (pa_cons (pe_op op_add pe_int (pe_op op_mul pe_int (pe_callB call_len_seq (by rfl) G.b_len PySem.boot_len (pa_cons (pv 1) pa_nil)))) (pa_cons pe_int pa_nil)))))))), ?_⟩
  refine ⟨a, ns, rfl, hS, hlen, hT, fun p H' h1 h2 h3 => ?_⟩
  refine ⟨.ref p, rfl, .ref p, rfl, p, _, rfl, .inl (.inl (.inl h3)), 19, _, rfl, rfl, .inl ⟨by decide, by decide⟩, 5407, _, rfl, rfl, small_sz (n := 5) (by omega), fun q nq => ?_⟩
  have hp : p ≠ q := ne_of_none h3 nq
  refine k _ q p (ns.map cellOf) _ (fun b hb => ?_) (fun hq => ?_) (Ne.symm hp) (by rw [List.length_map]; exact hlen) (fun z hz => ?_) (by rw [upd_ne hp]; exact h3) upd_same
  · rw [upd_ne (ne_of_none (h1 b hb) nq)]
    exact h1 b hb
  · rw [h1 q hq] at nq
    cases nq
  · obtain ⟨y, _, rfl⟩ := List.mem_map.mp hz
    exact Int.emod_nonneg _ (by decide)
end
end DL

/-! Gen54b: the law's own def behind its first statement. -/
namespace DL
open PySem PySem.Spec PyProof.Rows L2


/-! ### law: slots 0 script, 1 hand, 2 turn, 3 votes, 4 most -/
abbrev st_law : Stmt := topS 47
abbrev N_law : List Str := ["script", "hand", "turn", "votes", "most"]
theorem sc_law : FnScope N_law ["script"] (defScope st_law) := ⟨rfl, rfl, rfl, by decide +kernel, rfl, by decide +kernel, by decide +kernel⟩
def w_law (J : GJ) : WS := sSeq (sFor (wR1 (wCons (wOf (wC (.int 3))) wNil)) (gN 2) (sSeq (sPar 3 4 (wVal (wCall J S__law_votes 1 (wCons (wOf (wVar 1)) wNil))) (wVal (wCall J S__law_any 2 (wCons (wOf (wVar 1)) (wCons (wOf (wLst (wCons (wOf (wC (.int 1))) (wCons (wOf (wC (.int 10))) (wCons (wOf (wC (.int 60))) (wCons (wOf (wC (.int 100))) wNil)))))) wNil))))) (sIf (wTOr (wTNot (wTB (wCall J S__law_are_seats_right 2 (wCons (wOf (wVar 1)) (wCons (wOf (wVar 3)) wNil))))) (wTNot (wTB (wCall J S__law_like 2 (wCons (wOf (wCall J S_lost_seat 2 (wCons (wOf (wVar 3)) (wCons (wOf (wVar 4)) wNil)))) (wCons (wOf (wCall J S__law_lost 2 (wCons (wOf (wVar 3)) (wCons (wOf (wVar 4)) wNil)))) wNil)))))) (sRet (wC (.bl false))) sNil))) (sRet (wC (.bl true)))
theorem b_law {P : Program} {w : World} {K : PySem.W.Frag} {mg : Str → Option Value} {base : Heap} (G : Glo K mg) (c__law_votes : CalG true P w K mg base 3 "_law_votes" S__law_votes 1) (c__law_any : CalG true P w K mg base 2 "_law_any" S__law_any 2) (c__law_are_seats_right : CalG true P w K mg base 5 "_law_are_seats_right" S__law_are_seats_right 2) (c_lost_seat : CalG true P w K mg base 4 "lost_seat" S_lost_seat 2) (c__law_lost : CalG true P w K mg base 4 "_law_lost" S__law_lost 2) (c__law_like : CalG true P w K mg base 1 "_law_like" S__law_like 2) (J : GJ) {fa : Addr} {cd : Value} {A : Around} {outer : List Env} {s : Shared} {H : Hp} {E : XK} (hr : Rm true 5 (A.deeper (envOfC "law" (defScope st_law) s.heap.objs.size fa cd))) :
    DSs (cxOf L2.CX0 P w K mg base N_law "law" (defScope st_law) fa cd A outer s H E).nox J ((defBody st_law).drop 1) (w_law J) := by
  have nd : N_law.Nodup := sc_law.nd
  have gd := hr.gd rfl
  have u64 := hr.rm.units
  have u65 : (A.deeper (envOfC "law" (defScope st_law) s.heap.objs.size fa cd)).units + 65 < cLine := by have := hr.rm.un; omega
  have u1 : (A.deeper (envOfC "law" (defScope st_law) s.heap.objs.size fa cd)).units + 1 < cLine := by have := hr.rm.un; omega
  exact (dss_cons (ds_for PassesOwn.never rfl (di_r1 (by rfl) G.b_range (da_cons (db_of de_int) da_nil)) (dg_name 2 (L2.pg_name nd rfl (by first | exact .inl rfl | exact .inr rfl))) (dss_cons (ds_par rfl nd rfl rfl (by decide) rfl rfl (dv_of (de_call c__law_votes hr (by decide) (by rfl) (da_cons (db_of (de_var 1 (pv 1))) da_nil))) (dv_of (de_call c__law_any hr (by decide) (by rfl) (da_cons (db_of (de_var 1 (pv 1))) (da_cons (db_of (de_lst (da_cons (db_of de_int) (da_cons (db_of de_int) (da_cons (db_of de_int) (da_cons (db_of de_int) da_nil)))))) da_nil)))) rfl) (dss_one (ds_if (dt_of (dw_or (dt_not (dt_val (de_call c__law_are_seats_right hr (by decide) (by rfl) (da_cons (db_of (de_var 1 (pv 1))) (da_cons (db_of (de_var 3 (pv 3))) da_nil))))) (dw_or1 (dt_not (dt_val (de_call c__law_like hr (by decide) (by rfl) (da_cons (db_of (de_call c_lost_seat hr (by decide) (by rfl) (da_cons (db_of (de_var 3 (pv 3))) (da_cons (db_of (de_var 4 (pv 4))) da_nil)))) (da_cons (db_of (de_call c__law_lost hr (by decide) (by rfl) (da_cons (db_of (de_var 3 (pv 3))) (da_cons (db_of (de_var 4 (pv 4))) da_nil)))) da_nil)))))))) (dss_one (ds_ret de_bl)) dss_nil)))) (dss_one (ds_ret de_bl)))

end DL

/-! V23 (k54): the law's body. -/
namespace DL
open PySem PySem.Spec PyProof.Rows L2
theorem like_lost (vs : List Int) {m : Nat} (hm : m ≤ 100) : okE 60 (lostD vs m) = true ∧ okS (lostD vs m) = true ∧ rl (lostD vs m) ≤ sizeLine := by
  unfold lostD
  cases h : (List.range m).find? (fallsB vs) with
  | none => exact ⟨rfl, rfl, by rw [sizeLine_eq]; simp [rl]⟩
  | some k =>
    have hk := List.mem_range.mp (List.mem_of_find?_eq_some h)
    exact ⟨rfl, okS_int (by omega) (by omega), by rw [sizeLine_eq]; simp [rl]⟩
theorem v_law (J : GJ) {b : Addr} (hJ : IsHand J b) (E : DEnds) (hE : ∀ e, E.rt (.bl true) e) : w_law J [.no, .val (.tk b), .no, .no, .no] E := by
  refine seq_stepP (fun _ => True) (fun E' hrt _ _ hE' => ?_) fun e _ => by simpa using hE e
  simp only [sFor, wR1]
  refine ⟨_, rfl, by omega, ?_⟩
  rw [show rgD 0 1 (3 : Int).toNat = (List.range 3).map fun i => D.int (i : Nat) from rgD_nat 3]
  refine for_ind (α := Nat) _ (fun xs e => ∃ s2 s3 s4, e = [.no, .val (.tk b), s2, s3, s4]) (fun e h => hE' _ trivial) (fun x xs e h R hR => ?_) _ _ ⟨.no, .no, .no, rfl⟩
  obtain ⟨s2, s3, s4, rfl⟩ := h
  refine seq_stepP (fun e => ∃ vs, ∃ m : Nat, VOk vs ∧ 1 ≤ m ∧ m ≤ 100 ∧ e = [.no, .val (.tk b), .val (.int (x : Nat)), .val (tuI vs), .val (.int (m : Nat))]) (fun E2 _ _ _ hE2 => ?_) fun e he => ?_
  · simp [S__law_votes, S__law_any]
    refine ⟨hJ, fun vs hv => ⟨b, _, ⟨rfl, rfl⟩, hJ, by simp, by simp, fun y hy => ?_⟩⟩
    simp only [List.mem_cons, List.not_mem_nil, or_false] at hy
    rcases hy with rfl | rfl | rfl | rfl
    · exact hE2 _ ⟨vs, 1, hv, by omega, by omega, rfl⟩
    · exact hE2 _ ⟨vs, 10, hv, by omega, by omega, rfl⟩
    · exact hE2 _ ⟨vs, 60, hv, by omega, by omega, rfl⟩
    · exact hE2 _ ⟨vs, 100, hv, by omega, by omega, rfl⟩
  obtain ⟨vs, m, hv, m0, m1, rfl⟩ := he
  obtain ⟨k1, k2, k3⟩ := like_lost vs m1
  simp
  refine ⟨b, vs, rfl, hJ, hv, ?_⟩
  simp
  refine ⟨vs, m, rfl, hv, m0, m1, vs, m, rfl, hv, m0, m1, _, rfl, k1, k2, k3, ?_⟩
  simp
  exact hR _ ⟨_, _, _, rfl⟩
end DL

/-! X6 (k54): the hand as a thing with a state. -/
namespace DL
open PySem PySem.Spec PyProof.Rows L2
def handJ (b : Addr) : GJ where
  mt := fun x => x = b ∨ False
  inv := fun F H => HandAt b F H ∧ True
  at_ := fun F H x i m => by
    rcases m with rfl | m
    · obtain ⟨c, ns, i, d, s, k, _, h2, _⟩ := i.1.ex
      rw [h2]
      simp
    · exact m.elim
  stay := fun F H F' H' i e m x => by
    obtain ⟨c, ns, j, d, s, k, h1, h2, h3⟩ := i.1.ex
    exact ⟨⟨c, ns, j, d, s, k, e _ _ h1, (m b (.inl rfl)).trans h2, h3⟩, trivial⟩
theorem handJ_is (b : Addr) : IsHand (handJ b) b := ⟨fun _ => False, fun _ => True, rfl, id, fun _ _ => Iff.rfl, fun _ _ _ _ _ => trivial, fun _ _ _ h => h.elim⟩
end DL

/-! X7 (k54): the law's own def. -/
namespace DL
open PySem PySem.Spec PyProof.Rows L2
def spLaw (K : PySem.W.Frag) : Sp := fun vs H Q _ => ∃ (a : Addr) (ns : List Int), vs = [.ref a] ∧ SqL K H a (ns.map V.int) ∧ ns.length ≤ 63 ∧ ∀ H', Q (.bl true) H'
theorem fn_law {P : Program} {w : World} {K : PySem.W.Frag} {mg : Str → Option Value} {base : Heap} {fH f : Addr} {fdH fd : FuncData} (G : Glo K mg) (FH : FnG true P w K mg base L2.CX0 1 fH fdH ["script"] (spHand K [])) (mH : mg "_law_hand" = some (.ref fH)) (kH : PySem.W.keepIn K (.ref fH) = true) (bH : Binds K fdH ["script"] [])
    (c1 : CalG true P w K mg base 3 "_law_votes" S__law_votes 1) (c2 : CalG true P w K mg base 2 "_law_any" S__law_any 2) (c3 : CalG true P w K mg base 5 "_law_are_seats_right" S__law_are_seats_right 2) (c4 : CalG true P w K mg base 4 "lost_seat" S_lost_seat 2) (c5 : CalG true P w K mg base 4 "_law_lost" S__law_lost 2) (c6 : CalG true P w K mg base 1 "_law_like" S__law_like 2)
    (Fu : L2.Fun K "law" "law" st_law f fd) : FnG true P w K mg base L2.CX0 6 f fd ["script"] (spLaw K) := by
  refine fnG_of Fu sc_law (fun vs H Q E ⟨a, ns, h, _⟩ => by rw [h]; rfl) fun cd A outer s H0 vs Q E hr ⟨a, ns, hv, hS, hlen, k⟩ => ?_
  subst hv
  have nd : N_law.Nodup := sc_law.nd
  refine ⟨_, pss_cons (ps_set (i := 1) nd rfl (by first | exact .inl rfl | exact .inr rfl) (pe_callG FH (hr.mono (by decide)) (by rfl) mH kH bH L2.pass0 (pa_cons (pv 0) pa_nil))) (u := fun Z σ H => ∃ b, tS K mg (handJ b) (w_law (handJ b)) Z σ H) ⟨fun pins s' σ H Z I ⟨b, h⟩ => (b_law G c1 c2 c3 c4 c5 c6 (handJ b) (outer := outer) (s := s) (H := H0) (E := E) hr).run.nox.run pins s' σ H Z I h⟩, ?_⟩
  refine ⟨.ref a, rfl, a, ns, rfl, hS, hlen, (fun p hp => by cases hp), fun H' b c cells n h1 h2 h3 h4 h5 h6 h7 => ⟨b, ?_⟩⟩
  have hF : ∀ x o, upd (fun _ => none) c (.lst (cells.map V.int)) x = some o → x = c ∧ o = .lst (cells.map V.int) := fun x o e => by
    by_cases hx : x = c
    · subst hx
      rw [upd_same] at e
      cases e
      exact ⟨rfl, rfl⟩
    · rw [upd_ne hx] at e
      cases e
  have st : St8 (handJ b) (fun _ => none) (upd (fun _ => none) c (.lst (cells.map V.int))) H' := by
    refine ⟨fun x o e => ?_, fun x o e => (by cases e), ⟨⟨c, cells, 0, 0, n, 0, upd_same, h7, ⟨h4, h5, by decide, by decide⟩⟩, trivial⟩, fun x m => ⟨?_, rfl⟩, fun x o e => ?_⟩
    · obtain ⟨rfl, rfl⟩ := hF x o e
      exact h6
    · rcases m with rfl | m
      · rw [upd_ne h3]
      · exact m.elim
    · rcases e with e | e
      · obtain ⟨rfl, rfl⟩ := hF x o e
        exact nt_lst
      · cases e
  have R : Rep K mg (handJ b) (fun _ => none) [.no, .val (.tk b), .no, .no, .no] ((L2.start N_law [.ref a]).set 1 (some (.ref b))) (upd (fun _ => none) c (.lst (cells.map V.int))) H' := by
    refine ⟨st, rfl, fun i s o e1 e2 => ?_, fun i j s t ne e1 e2 hs ht => ?_⟩
    · match i, e1, e2 with
      | 0, e1, _ => cases e1; trivial
      | 1, e1, e2 =>
        cases e1
        cases e2
        exact ⟨_, rfl, .tk b⟩
      | 2, e1, _ => cases e1; trivial
      | 3, e1, _ => cases e1; trivial
      | 4, e1, _ => cases e1; trivial
      | i + 5, e1, _ => cases e1
    · match i, e1 with
      | 0, e1 => cases e1; cases hs
      | 1, e1 => cases e1; cases hs
      | 2, e1 => cases e1; cases hs
      | 3, e1 => cases e1; cases hs
      | 4, e1 => cases e1; cases hs
      | i + 5, e1 => cases e1
  refine ⟨fun _ => none, _, _, { nx := fun _ => False, rt := fun d _ => d = .bl true }, R, v_law _ (handJ_is b) _ fun e => rfl, ⟨fun _ _ _ _ _ _ h => h.elim, fun d v e σ F' H' R' ff iv hd => ?_, fun _ _ _ _ _ _ h => h.elim, fun _ _ _ _ _ _ h => h.elim⟩⟩
  subst hd
  cases iv.bl_inv
  exact k H'
end DL

/-! X8 (k54): the law called at the top, no table, no object being written out. -/
namespace DL
open PySem PySem.Spec PyProof.Rows L2
/-- the abstract heap at the start: the script if it is no part of the text -/
def topH (K : PySem.W.Frag) (a : Addr) (os : Obj) (xs : List V) : Hp := fun b => if b = a ∧ K.lookup a = none then some (.frz os (.lst xs)) else none
section
variable {K : PySem.W.Frag} {a b : Addr} {os : Obj} {xs : List V}
theorem topH_a (e : K.lookup a = none) : topH K a os xs a = some (.frz os (.lst xs)) := if_pos ⟨rfl, e⟩
theorem topH_off (h2 : b ≠ a ∨ K.lookup a ≠ none) : topH K a os xs b = none := if_neg fun z => h2.elim (fun h => h z.1) fun h => h z.2
theorem topH_cases {u : HO} (e : topH K a os xs b = some u) : b = a ∧ K.lookup a = none ∧ u = .frz os (.lst xs) := by
  unfold topH at e
  split at e
  · rename_i h2
    exact ⟨h2.1, h2.2, (Option.some.inj e).symm⟩
  · cases e
end
theorem law_top {P : Program} {w : World} {K : PySem.W.Frag} {mg mb : Str → Option Value} {k : Nat} {fa a : Addr} {fd : FuncData} {x : Str} {sp : Sp} {S : Shared} {vs : List Value} {ns : List Int} (inK : K.In S.heap) (nsG : S.heap.Ns mainGlobals mg) (nsB : S.heap.Ns builtinsNs mb)
    (boots : ∀ y : Str, y ≠ "__name__" → mb y = bootBuiltins y) (free : S.heap.NoLimit) (gen0 : S.gens = #[])
    (scr : S.heap.get? a = some { cls := .type "list", data := .seq vs.toArray }) (intz : IntsAre vs ns) (short : ns.length ≤ sizeLine) (room : Rm true k callerA)
    (F : ∀ base : Heap, K.In base → base.Ns mainGlobals mg → FnG true P w K mg base L2.CX0 k fa fd [x] sp) (bnd : ∀ (s : Shared) (u : Value), BindsTo s fd ⟨[u], []⟩ [(x, u)])
    (prom : ∀ H : Hp, SqL K H a (ns.map V.int) → sp [.ref a] H (fun v _ => v = .bl true) fun _ _ _ => False) :
    codeAny (model P w) callerA (.call (.ref fa) ⟨[.ref a], []⟩) (fun r s' => r = .ok (.ret (.bool true)) ∧ OldK S.heap s'.heap ∧ s'.os = S.os ∧ AllBare s'.gens) S := by
  have rel : Vals (ns.map V.int) vs := vals_ints intz
  obtain ⟨H, hH⟩ : ∃ H, H = topH K a { cls := .type "list", data := .seq vs.toArray } (ns.map V.int) := ⟨_, rfl⟩
  have off : ∀ {b : Addr} {o : Obj}, S.heap.get? b = some o → (∀ z n, o.data ≠ .seq z n) → H b = none := fun {b o} e n1 => by
    rw [hH]
    refine topH_off (.inl fun z => ?_)
    subst z
    rw [scr] at e
    cases e
    exact n1 _ _ rfl
  have hid : ∀ {b : Addr} {o : Obj}, S.heap.get? b = some o → H b = none → (hidT S.heap H).get? b = some o := fun e n => hidT_get e n
  have hidNs : ∀ {b : Addr} {m : Str → Option Value}, S.heap.Ns b m → (hidT S.heap H).Ns b m := fun {b m} h => by
    obtain ⟨o, es, ep, e, d, r⟩ := h
    exact ⟨o, es, ep, hid e (off e (fun z n q => by rw [d] at q; cases q)), d, r⟩
  have ok : HOk P w H S.heap := fun b u e => by
    rw [hH] at e
    obtain ⟨rfl, _, rfl⟩ := topH_cases e
    exact ⟨scr, by rw [List.length_map]; exact short, vs, _, rel, scr⟩
  have inB : K.In (hidT S.heap H) := fun b o e => hid (inK b o e) (by
    rw [hH]
    refine topH_off ?_
    by_cases z : b = a
    · subst z
      exact .inr (by rw [e]; simp)
    · exact .inl z)
  have sq : SqL K H a (ns.map V.int) := by
    cases hk : K.lookup a with
    | none =>
      exact .inl (.inr ⟨{ cls := .type "list", data := .seq vs.toArray }, by rw [hH]; exact topH_a hk⟩)
    | some o =>
      have e := inK a o hk
      rw [scr] at e
      cases e
      refine .inr ⟨_, vs.toArray, _, hk, rfl, rfl, rfl, ?_, by simpa using rel⟩
      rw [List.size_toArray, intz.length]
      exact short
  have env : Env0 P w K mg (hidT S.heap H) callerA [] S H := by
    obtain ⟨mc, l1, l2⟩ := free
    exact ⟨rfl, ⟨inB, hidNs nsG, ⟨mb, hidNs nsB, boots⟩, ⟨mc, hidNs l1, l2⟩⟩, fun b o e => of_hidT e, Nat.le_of_eq (hidT_size _ _), trivial, fun b z => (by cases z), ok, .of_eq gen0⟩
  have run := (F _ inB (hidNs nsG)).run callerA [] S H ⟨[.ref a], []⟩ [.ref a] [.ref a] _ _ room env (bnd S (.ref a)) (.cons rfl .nil) (prom H sq)
  refine codeAny_mono run fun r s' h => ?_
  match r, h with
  | .error e, h => exact (show False from h).elim
  | .ok .next, h => exact (show False from h).elim
  | .ok .brk, h => exact (show False from h).elim
  | .ok .cont, h => exact (show False from h).elim
  | .ok (.ret u), h =>
    obtain ⟨v, H', eos, ebare, un, ok', ru, ev⟩ := h
    have ev : v = .bl true := ev
    subst ev
    obtain rfl : u = Value.bool true := ru
    have same : ∀ b o, S.heap.get? b = some o → s'.heap.get? b = some o := fun b o e => by
      cases q : H b with
      | none => exact un.keep b o e q (fun z => by cases z) (fun z => by cases z)
      | some u =>
        have q2 := q
        rw [hH] at q2
        obtain ⟨rfl, _, rfl⟩ := topH_cases q2
        have z := un.frzs b _ _ q
        have f1 := (ok b _ q).1
        have f2 := (ok' b _ z).1
        rw [e] at f1
        cases f1
        exact f2
    exact ⟨rfl, ⟨fun b o e => .inl (same b o e), fun b o e => ⟨o, same b o e⟩⟩, eos, ebare⟩
end DL

/-! the end: all joined. -/
namespace DL
open PySem PySem.Spec PyProof.Rows L2

theorem all_mk {P : Program} {w : World} {K : PySem.W.Frag} {h : Heap} {mg : Str → Option Value} {fa : Addr} (X : K.In h) (G : h.Ns mainGlobals mg) (hfa : mg "law" = some (.ref fa))
    {f_is_integer f_is_within f_is_number f_is_tuple f_is_sized f_divisor_of f_lowest f_is_below f_is_most f_greatest f_least f_check_votes f_is_ahead f_step_of f_one_by_one f_by_rests f_raw_seats f_check_rule f_seats f_divisors f_lost_seat f_law_draw f_law_any f_law_like f_law_low f_law_below f_law_votes f_law_next f_law_seats f_law_ends f_law_are_seats_right f_law_lost f_law_hand f_law r_RULES : Addr}
    {od_is_integer an_is_integer od_is_within an_is_within od_is_number an_is_number od_is_tuple an_is_tuple od_is_sized an_is_sized od_divisor_of an_divisor_of od_lowest an_lowest od_is_below an_is_below od_is_most an_is_most od_greatest an_greatest od_least an_least od_check_votes an_check_votes od_is_ahead an_is_ahead od_step_of an_step_of od_one_by_one an_one_by_one od_by_rests an_by_rests od_raw_seats an_raw_seats od_check_rule an_check_rule od_seats an_seats od_divisors an_divisors od_lost_seat an_lost_seat od_law_draw an_law_draw od_law_any an_law_any od_law_like an_law_like od_law_low an_law_low od_law_below an_law_below od_law_votes an_law_votes od_law_next an_law_next od_law_seats an_law_seats od_law_ends an_law_ends od_law_are_seats_right an_law_are_seats_right od_law_lost an_law_lost od_law_hand an_law_hand od_law an_law : Option Addr}
    {sl_is_integer sl_is_within sl_is_number sl_is_tuple sl_is_sized sl_divisor_of sl_lowest sl_is_below sl_is_most sl_greatest sl_least sl_check_votes sl_is_ahead sl_step_of sl_one_by_one sl_by_rests sl_raw_seats sl_check_rule sl_seats sl_divisors sl_lost_seat sl_law_draw sl_law_any sl_law_like sl_law_low sl_law_below sl_law_votes sl_law_next sl_law_seats sl_law_ends sl_law_are_seats_right sl_law_lost sl_law_hand sl_law : Array (Option Value)}
    {oc_is_integer kV_is_integer dc_is_integer pm_is_integer ct_is_integer cd_is_integer oc_is_within kV_is_within dc_is_within pm_is_within ct_is_within cd_is_within oc_is_number kV_is_number dc_is_number pm_is_number ct_is_number cd_is_number oc_is_tuple kV_is_tuple dc_is_tuple pm_is_tuple ct_is_tuple cd_is_tuple oc_is_sized kV_is_sized dc_is_sized pm_is_sized ct_is_sized cd_is_sized oc_divisor_of kV_divisor_of dc_divisor_of pm_divisor_of ct_divisor_of cd_divisor_of oc_lowest kV_lowest dc_lowest pm_lowest ct_lowest cd_lowest oc_is_below kV_is_below dc_is_below pm_is_below ct_is_below cd_is_below oc_is_most kV_is_most dc_is_most pm_is_most ct_is_most cd_is_most oc_greatest kV_greatest dc_greatest pm_greatest ct_greatest cd_greatest oc_least kV_least dc_least pm_least ct_least cd_least oc_check_votes kV_check_votes dc_check_votes pm_check_votes ct_check_votes cd_check_votes oc_is_ahead kV_is_ahead dc_is_ahead pm_is_ahead ct_is_ahead cd_is_ahead oc_step_of kV_step_of dc_step_of pm_step_of ct_step_of cd_step_of oc_one_by_one kV_one_by_one dc_one_by_one pm_one_by_one ct_one_by_one cd_one_by_one oc_by_rests kV_by_rests dc_by_rests pm_by_rests ct_by_rests cd_by_rests oc_raw_seats kV_raw_seats dc_raw_seats pm_raw_seats ct_raw_seats cd_raw_seats oc_check_rule kV_check_rule dc_check_rule pm_check_rule ct_check_rule cd_check_rule oc_seats kV_seats dc_seats pm_seats ct_seats cd_seats oc_divisors kV_divisors dc_divisors pm_divisors ct_divisors cd_divisors oc_lost_seat kV_lost_seat dc_lost_seat pm_lost_seat ct_lost_seat cd_lost_seat oc_law_draw kV_law_draw dc_law_draw pm_law_draw ct_law_draw cd_law_draw oc_law_any kV_law_any dc_law_any pm_law_any ct_law_any cd_law_any oc_law_like kV_law_like dc_law_like pm_law_like ct_law_like cd_law_like oc_law_low kV_law_low dc_law_low pm_law_low ct_law_low cd_law_low oc_law_below kV_law_below dc_law_below pm_law_below ct_law_below cd_law_below oc_law_votes kV_law_votes dc_law_votes pm_law_votes ct_law_votes cd_law_votes oc_law_next kV_law_next dc_law_next pm_law_next ct_law_next cd_law_next oc_law_seats kV_law_seats dc_law_seats pm_law_seats ct_law_seats cd_law_seats oc_law_ends kV_law_ends dc_law_ends pm_law_ends ct_law_ends cd_law_ends oc_law_are_seats_right kV_law_are_seats_right dc_law_are_seats_right pm_law_are_seats_right ct_law_are_seats_right cd_law_are_seats_right oc_law_lost kV_law_lost dc_law_lost pm_law_lost ct_law_lost cd_law_lost oc_law_hand kV_law_hand dc_law_hand pm_law_hand ct_law_hand cd_law_hand oc_law kV_law dc_law pm_law ct_law cd_law : Value}
    {t_MOST_LOOKED t_MOST_PARTIES t_MOST_SEATS : Tok}
    {q_RULES_0 q_RULES_1 q_RULES_2 q_RULES_3 : Tok} {dd_RULES : Option Addr} {ss_RULES : Array (Option Value)} {nn_RULES : Nat}
    (a_is_integer : PySem.W.nsIn K mainGlobals "is_integer" = some (some (.ref f_is_integer)))
    (l_is_integer : K.lookup f_is_integer = some ⟨oc_is_integer, od_is_integer, .func (PySem.W.fnOf "is_integer" "is_integer" (defArgs st_is_integer) (defBody st_is_integer) (defScope st_is_integer) .none kV_is_integer dc_is_integer pm_is_integer an_is_integer cd_is_integer ct_is_integer), sl_is_integer⟩)
    (c_is_integer : PySem.W.codeIn K cd_is_integer "is_integer" = true)
    (k_is_integer : PySem.W.keepIn K (.ref f_is_integer) = true)
    (a_is_within : PySem.W.nsIn K mainGlobals "is_within" = some (some (.ref f_is_within)))
    (l_is_within : K.lookup f_is_within = some ⟨oc_is_within, od_is_within, .func (PySem.W.fnOf "is_within" "is_within" (defArgs st_is_within) (defBody st_is_within) (defScope st_is_within) .none kV_is_within dc_is_within pm_is_within an_is_within cd_is_within ct_is_within), sl_is_within⟩)
    (c_is_within : PySem.W.codeIn K cd_is_within "is_within" = true)
    (k_is_within : PySem.W.keepIn K (.ref f_is_within) = true)
    (a_is_number : PySem.W.nsIn K mainGlobals "is_number" = some (some (.ref f_is_number)))
    (l_is_number : K.lookup f_is_number = some ⟨oc_is_number, od_is_number, .func (PySem.W.fnOf "is_number" "is_number" (defArgs st_is_number) (defBody st_is_number) (defScope st_is_number) .none kV_is_number dc_is_number pm_is_number an_is_number cd_is_number ct_is_number), sl_is_number⟩)
    (c_is_number : PySem.W.codeIn K cd_is_number "is_number" = true)
    (k_is_number : PySem.W.keepIn K (.ref f_is_number) = true)
    (a_is_tuple : PySem.W.nsIn K mainGlobals "is_tuple" = some (some (.ref f_is_tuple)))
    (l_is_tuple : K.lookup f_is_tuple = some ⟨oc_is_tuple, od_is_tuple, .func (PySem.W.fnOf "is_tuple" "is_tuple" (defArgs st_is_tuple) (defBody st_is_tuple) (defScope st_is_tuple) .none kV_is_tuple dc_is_tuple pm_is_tuple an_is_tuple cd_is_tuple ct_is_tuple), sl_is_tuple⟩)
    (c_is_tuple : PySem.W.codeIn K cd_is_tuple "is_tuple" = true)
    (k_is_tuple : PySem.W.keepIn K (.ref f_is_tuple) = true)
    (a_is_sized : PySem.W.nsIn K mainGlobals "is_sized" = some (some (.ref f_is_sized)))
    (l_is_sized : K.lookup f_is_sized = some ⟨oc_is_sized, od_is_sized, .func (PySem.W.fnOf "is_sized" "is_sized" (defArgs st_is_sized) (defBody st_is_sized) (defScope st_is_sized) .none kV_is_sized dc_is_sized pm_is_sized an_is_sized cd_is_sized ct_is_sized), sl_is_sized⟩)
    (c_is_sized : PySem.W.codeIn K cd_is_sized "is_sized" = true)
    (k_is_sized : PySem.W.keepIn K (.ref f_is_sized) = true)
    (a_divisor_of : PySem.W.nsIn K mainGlobals "divisor_of" = some (some (.ref f_divisor_of)))
    (l_divisor_of : K.lookup f_divisor_of = some ⟨oc_divisor_of, od_divisor_of, .func (PySem.W.fnOf "divisor_of" "divisor_of" (defArgs st_divisor_of) (defBody st_divisor_of) (defScope st_divisor_of) .none kV_divisor_of dc_divisor_of pm_divisor_of an_divisor_of cd_divisor_of ct_divisor_of), sl_divisor_of⟩)
    (c_divisor_of : PySem.W.codeIn K cd_divisor_of "divisor_of" = true)
    (k_divisor_of : PySem.W.keepIn K (.ref f_divisor_of) = true)
    (a_lowest : PySem.W.nsIn K mainGlobals "lowest" = some (some (.ref f_lowest)))
    (l_lowest : K.lookup f_lowest = some ⟨oc_lowest, od_lowest, .func (PySem.W.fnOf "lowest" "lowest" (defArgs st_lowest) (defBody st_lowest) (defScope st_lowest) .none kV_lowest dc_lowest pm_lowest an_lowest cd_lowest ct_lowest), sl_lowest⟩)
    (c_lowest : PySem.W.codeIn K cd_lowest "lowest" = true)
    (k_lowest : PySem.W.keepIn K (.ref f_lowest) = true)
    (a_is_below : PySem.W.nsIn K mainGlobals "is_below" = some (some (.ref f_is_below)))
    (l_is_below : K.lookup f_is_below = some ⟨oc_is_below, od_is_below, .func (PySem.W.fnOf "is_below" "is_below" (defArgs st_is_below) (defBody st_is_below) (defScope st_is_below) .none kV_is_below dc_is_below pm_is_below an_is_below cd_is_below ct_is_below), sl_is_below⟩)
    (c_is_below : PySem.W.codeIn K cd_is_below "is_below" = true)
    (k_is_below : PySem.W.keepIn K (.ref f_is_below) = true)
    (a_is_most : PySem.W.nsIn K mainGlobals "is_most" = some (some (.ref f_is_most)))
    (l_is_most : K.lookup f_is_most = some ⟨oc_is_most, od_is_most, .func (PySem.W.fnOf "is_most" "is_most" (defArgs st_is_most) (defBody st_is_most) (defScope st_is_most) .none kV_is_most dc_is_most pm_is_most an_is_most cd_is_most ct_is_most), sl_is_most⟩)
    (c_is_most : PySem.W.codeIn K cd_is_most "is_most" = true)
    (k_is_most : PySem.W.keepIn K (.ref f_is_most) = true)
    (a_greatest : PySem.W.nsIn K mainGlobals "greatest" = some (some (.ref f_greatest)))
    (l_greatest : K.lookup f_greatest = some ⟨oc_greatest, od_greatest, .func (PySem.W.fnOf "greatest" "greatest" (defArgs st_greatest) (defBody st_greatest) (defScope st_greatest) .none kV_greatest dc_greatest pm_greatest an_greatest cd_greatest ct_greatest), sl_greatest⟩)
    (c_greatest : PySem.W.codeIn K cd_greatest "greatest" = true)
    (k_greatest : PySem.W.keepIn K (.ref f_greatest) = true)
    (a_least : PySem.W.nsIn K mainGlobals "least" = some (some (.ref f_least)))
    (l_least : K.lookup f_least = some ⟨oc_least, od_least, .func (PySem.W.fnOf "least" "least" (defArgs st_least) (defBody st_least) (defScope st_least) .none kV_least dc_least pm_least an_least cd_least ct_least), sl_least⟩)
    (c_least : PySem.W.codeIn K cd_least "least" = true)
    (k_least : PySem.W.keepIn K (.ref f_least) = true)
    (a_check_votes : PySem.W.nsIn K mainGlobals "check_votes" = some (some (.ref f_check_votes)))
    (l_check_votes : K.lookup f_check_votes = some ⟨oc_check_votes, od_check_votes, .func (PySem.W.fnOf "check_votes" "check_votes" (defArgs st_check_votes) (defBody st_check_votes) (defScope st_check_votes) .none kV_check_votes dc_check_votes pm_check_votes an_check_votes cd_check_votes ct_check_votes), sl_check_votes⟩)
    (c_check_votes : PySem.W.codeIn K cd_check_votes "check_votes" = true)
    (k_check_votes : PySem.W.keepIn K (.ref f_check_votes) = true)
    (a_is_ahead : PySem.W.nsIn K mainGlobals "is_ahead" = some (some (.ref f_is_ahead)))
    (l_is_ahead : K.lookup f_is_ahead = some ⟨oc_is_ahead, od_is_ahead, .func (PySem.W.fnOf "is_ahead" "is_ahead" (defArgs st_is_ahead) (defBody st_is_ahead) (defScope st_is_ahead) .none kV_is_ahead dc_is_ahead pm_is_ahead an_is_ahead cd_is_ahead ct_is_ahead), sl_is_ahead⟩)
    (c_is_ahead : PySem.W.codeIn K cd_is_ahead "is_ahead" = true)
    (k_is_ahead : PySem.W.keepIn K (.ref f_is_ahead) = true)
    (a_step_of : PySem.W.nsIn K mainGlobals "step_of" = some (some (.ref f_step_of)))
    (l_step_of : K.lookup f_step_of = some ⟨oc_step_of, od_step_of, .func (PySem.W.fnOf "step_of" "step_of" (defArgs st_step_of) (defBody st_step_of) (defScope st_step_of) .none kV_step_of dc_step_of pm_step_of an_step_of cd_step_of ct_step_of), sl_step_of⟩)
    (c_step_of : PySem.W.codeIn K cd_step_of "step_of" = true)
    (k_step_of : PySem.W.keepIn K (.ref f_step_of) = true)
    (a_one_by_one : PySem.W.nsIn K mainGlobals "one_by_one" = some (some (.ref f_one_by_one)))
    (l_one_by_one : K.lookup f_one_by_one = some ⟨oc_one_by_one, od_one_by_one, .func (PySem.W.fnOf "one_by_one" "one_by_one" (defArgs st_one_by_one) (defBody st_one_by_one) (defScope st_one_by_one) .none kV_one_by_one dc_one_by_one pm_one_by_one an_one_by_one cd_one_by_one ct_one_by_one), sl_one_by_one⟩)
    (c_one_by_one : PySem.W.codeIn K cd_one_by_one "one_by_one" = true)
    (k_one_by_one : PySem.W.keepIn K (.ref f_one_by_one) = true)
    (a_by_rests : PySem.W.nsIn K mainGlobals "by_rests" = some (some (.ref f_by_rests)))
    (l_by_rests : K.lookup f_by_rests = some ⟨oc_by_rests, od_by_rests, .func (PySem.W.fnOf "by_rests" "by_rests" (defArgs st_by_rests) (defBody st_by_rests) (defScope st_by_rests) .none kV_by_rests dc_by_rests pm_by_rests an_by_rests cd_by_rests ct_by_rests), sl_by_rests⟩)
    (c_by_rests : PySem.W.codeIn K cd_by_rests "by_rests" = true)
    (k_by_rests : PySem.W.keepIn K (.ref f_by_rests) = true)
    (a_raw_seats : PySem.W.nsIn K mainGlobals "raw_seats" = some (some (.ref f_raw_seats)))
    (l_raw_seats : K.lookup f_raw_seats = some ⟨oc_raw_seats, od_raw_seats, .func (PySem.W.fnOf "raw_seats" "raw_seats" (defArgs st_raw_seats) (defBody st_raw_seats) (defScope st_raw_seats) .none kV_raw_seats dc_raw_seats pm_raw_seats an_raw_seats cd_raw_seats ct_raw_seats), sl_raw_seats⟩)
    (c_raw_seats : PySem.W.codeIn K cd_raw_seats "raw_seats" = true)
    (k_raw_seats : PySem.W.keepIn K (.ref f_raw_seats) = true)
    (a_check_rule : PySem.W.nsIn K mainGlobals "check_rule" = some (some (.ref f_check_rule)))
    (l_check_rule : K.lookup f_check_rule = some ⟨oc_check_rule, od_check_rule, .func (PySem.W.fnOf "check_rule" "check_rule" (defArgs st_check_rule) (defBody st_check_rule) (defScope st_check_rule) .none kV_check_rule dc_check_rule pm_check_rule an_check_rule cd_check_rule ct_check_rule), sl_check_rule⟩)
    (c_check_rule : PySem.W.codeIn K cd_check_rule "check_rule" = true)
    (k_check_rule : PySem.W.keepIn K (.ref f_check_rule) = true)
    (a_seats : PySem.W.nsIn K mainGlobals "seats" = some (some (.ref f_seats)))
    (l_seats : K.lookup f_seats = some ⟨oc_seats, od_seats, .func (PySem.W.fnOf "seats" "seats" (defArgs st_seats) (defBody st_seats) (defScope st_seats) .none kV_seats dc_seats pm_seats an_seats cd_seats ct_seats), sl_seats⟩)
    (c_seats : PySem.W.codeIn K cd_seats "seats" = true)
    (k_seats : PySem.W.keepIn K (.ref f_seats) = true)
    (a_divisors : PySem.W.nsIn K mainGlobals "divisors" = some (some (.ref f_divisors)))
    (l_divisors : K.lookup f_divisors = some ⟨oc_divisors, od_divisors, .func (PySem.W.fnOf "divisors" "divisors" (defArgs st_divisors) (defBody st_divisors) (defScope st_divisors) .none kV_divisors dc_divisors pm_divisors an_divisors cd_divisors ct_divisors), sl_divisors⟩)
    (c_divisors : PySem.W.codeIn K cd_divisors "divisors" = true)
    (k_divisors : PySem.W.keepIn K (.ref f_divisors) = true)
    (a_lost_seat : PySem.W.nsIn K mainGlobals "lost_seat" = some (some (.ref f_lost_seat)))
    (l_lost_seat : K.lookup f_lost_seat = some ⟨oc_lost_seat, od_lost_seat, .func (PySem.W.fnOf "lost_seat" "lost_seat" (defArgs st_lost_seat) (defBody st_lost_seat) (defScope st_lost_seat) .none kV_lost_seat dc_lost_seat pm_lost_seat an_lost_seat cd_lost_seat ct_lost_seat), sl_lost_seat⟩)
    (c_lost_seat : PySem.W.codeIn K cd_lost_seat "lost_seat" = true)
    (k_lost_seat : PySem.W.keepIn K (.ref f_lost_seat) = true)
    (a_law_draw : PySem.W.nsIn K mainGlobals "_law_draw" = some (some (.ref f_law_draw)))
    (l_law_draw : K.lookup f_law_draw = some ⟨oc_law_draw, od_law_draw, .func (PySem.W.fnOf "_law_draw" "_law_draw" (defArgs st__law_draw) (defBody st__law_draw) (defScope st__law_draw) .none kV_law_draw dc_law_draw pm_law_draw an_law_draw cd_law_draw ct_law_draw), sl_law_draw⟩)
    (c_law_draw : PySem.W.codeIn K cd_law_draw "_law_draw" = true)
    (k_law_draw : PySem.W.keepIn K (.ref f_law_draw) = true)
    (a_law_any : PySem.W.nsIn K mainGlobals "_law_any" = some (some (.ref f_law_any)))
    (l_law_any : K.lookup f_law_any = some ⟨oc_law_any, od_law_any, .func (PySem.W.fnOf "_law_any" "_law_any" (defArgs st__law_any) (defBody st__law_any) (defScope st__law_any) .none kV_law_any dc_law_any pm_law_any an_law_any cd_law_any ct_law_any), sl_law_any⟩)
    (c_law_any : PySem.W.codeIn K cd_law_any "_law_any" = true)
    (k_law_any : PySem.W.keepIn K (.ref f_law_any) = true)
    (a_law_like : PySem.W.nsIn K mainGlobals "_law_like" = some (some (.ref f_law_like)))
    (l_law_like : K.lookup f_law_like = some ⟨oc_law_like, od_law_like, .func (PySem.W.fnOf "_law_like" "_law_like" (defArgs st__law_like) (defBody st__law_like) (defScope st__law_like) .none kV_law_like dc_law_like pm_law_like an_law_like cd_law_like ct_law_like), sl_law_like⟩)
    (c_law_like : PySem.W.codeIn K cd_law_like "_law_like" = true)
    (k_law_like : PySem.W.keepIn K (.ref f_law_like) = true)
    (a_law_low : PySem.W.nsIn K mainGlobals "_law_low" = some (some (.ref f_law_low)))
    (l_law_low : K.lookup f_law_low = some ⟨oc_law_low, od_law_low, .func (PySem.W.fnOf "_law_low" "_law_low" (defArgs st__law_low) (defBody st__law_low) (defScope st__law_low) .none kV_law_low dc_law_low pm_law_low an_law_low cd_law_low ct_law_low), sl_law_low⟩)
    (c_law_low : PySem.W.codeIn K cd_law_low "_law_low" = true)
    (k_law_low : PySem.W.keepIn K (.ref f_law_low) = true)
    (a_law_below : PySem.W.nsIn K mainGlobals "_law_below" = some (some (.ref f_law_below)))
    (l_law_below : K.lookup f_law_below = some ⟨oc_law_below, od_law_below, .func (PySem.W.fnOf "_law_below" "_law_below" (defArgs st__law_below) (defBody st__law_below) (defScope st__law_below) .none kV_law_below dc_law_below pm_law_below an_law_below cd_law_below ct_law_below), sl_law_below⟩)
    (c_law_below : PySem.W.codeIn K cd_law_below "_law_below" = true)
    (k_law_below : PySem.W.keepIn K (.ref f_law_below) = true)
    (a_law_votes : PySem.W.nsIn K mainGlobals "_law_votes" = some (some (.ref f_law_votes)))
    (l_law_votes : K.lookup f_law_votes = some ⟨oc_law_votes, od_law_votes, .func (PySem.W.fnOf "_law_votes" "_law_votes" (defArgs st__law_votes) (defBody st__law_votes) (defScope st__law_votes) .none kV_law_votes dc_law_votes pm_law_votes an_law_votes cd_law_votes ct_law_votes), sl_law_votes⟩)
    (c_law_votes : PySem.W.codeIn K cd_law_votes "_law_votes" = true)
    (k_law_votes : PySem.W.keepIn K (.ref f_law_votes) = true)
    (a_law_next : PySem.W.nsIn K mainGlobals "_law_next" = some (some (.ref f_law_next)))
    (l_law_next : K.lookup f_law_next = some ⟨oc_law_next, od_law_next, .func (PySem.W.fnOf "_law_next" "_law_next" (defArgs st__law_next) (defBody st__law_next) (defScope st__law_next) .none kV_law_next dc_law_next pm_law_next an_law_next cd_law_next ct_law_next), sl_law_next⟩)
    (c_law_next : PySem.W.codeIn K cd_law_next "_law_next" = true)
    (k_law_next : PySem.W.keepIn K (.ref f_law_next) = true)
    (a_law_seats : PySem.W.nsIn K mainGlobals "_law_seats" = some (some (.ref f_law_seats)))
    (l_law_seats : K.lookup f_law_seats = some ⟨oc_law_seats, od_law_seats, .func (PySem.W.fnOf "_law_seats" "_law_seats" (defArgs st__law_seats) (defBody st__law_seats) (defScope st__law_seats) .none kV_law_seats dc_law_seats pm_law_seats an_law_seats cd_law_seats ct_law_seats), sl_law_seats⟩)
    (c_law_seats : PySem.W.codeIn K cd_law_seats "_law_seats" = true)
    (k_law_seats : PySem.W.keepIn K (.ref f_law_seats) = true)
    (a_law_ends : PySem.W.nsIn K mainGlobals "_law_ends" = some (some (.ref f_law_ends)))
    (l_law_ends : K.lookup f_law_ends = some ⟨oc_law_ends, od_law_ends, .func (PySem.W.fnOf "_law_ends" "_law_ends" (defArgs st__law_ends) (defBody st__law_ends) (defScope st__law_ends) .none kV_law_ends dc_law_ends pm_law_ends an_law_ends cd_law_ends ct_law_ends), sl_law_ends⟩)
    (c_law_ends : PySem.W.codeIn K cd_law_ends "_law_ends" = true)
    (k_law_ends : PySem.W.keepIn K (.ref f_law_ends) = true)
    (a_law_are_seats_right : PySem.W.nsIn K mainGlobals "_law_are_seats_right" = some (some (.ref f_law_are_seats_right)))
    (l_law_are_seats_right : K.lookup f_law_are_seats_right = some ⟨oc_law_are_seats_right, od_law_are_seats_right, .func (PySem.W.fnOf "_law_are_seats_right" "_law_are_seats_right" (defArgs st__law_are_seats_right) (defBody st__law_are_seats_right) (defScope st__law_are_seats_right) .none kV_law_are_seats_right dc_law_are_seats_right pm_law_are_seats_right an_law_are_seats_right cd_law_are_seats_right ct_law_are_seats_right), sl_law_are_seats_right⟩)
    (c_law_are_seats_right : PySem.W.codeIn K cd_law_are_seats_right "_law_are_seats_right" = true)
    (k_law_are_seats_right : PySem.W.keepIn K (.ref f_law_are_seats_right) = true)
    (a_law_lost : PySem.W.nsIn K mainGlobals "_law_lost" = some (some (.ref f_law_lost)))
    (l_law_lost : K.lookup f_law_lost = some ⟨oc_law_lost, od_law_lost, .func (PySem.W.fnOf "_law_lost" "_law_lost" (defArgs st__law_lost) (defBody st__law_lost) (defScope st__law_lost) .none kV_law_lost dc_law_lost pm_law_lost an_law_lost cd_law_lost ct_law_lost), sl_law_lost⟩)
    (c_law_lost : PySem.W.codeIn K cd_law_lost "_law_lost" = true)
    (k_law_lost : PySem.W.keepIn K (.ref f_law_lost) = true)
    (a_law_hand : PySem.W.nsIn K mainGlobals "_law_hand" = some (some (.ref f_law_hand)))
    (l_law_hand : K.lookup f_law_hand = some ⟨oc_law_hand, od_law_hand, .func (PySem.W.fnOf "_law_hand" "_law_hand" (defArgs st__law_hand) (defBody st__law_hand) (defScope st__law_hand) .none kV_law_hand dc_law_hand pm_law_hand an_law_hand cd_law_hand ct_law_hand), sl_law_hand⟩)
    (c_law_hand : PySem.W.codeIn K cd_law_hand "_law_hand" = true)
    (k_law_hand : PySem.W.keepIn K (.ref f_law_hand) = true)
    (a_law : PySem.W.nsIn K mainGlobals "law" = some (some (.ref f_law)))
    (l_law : K.lookup f_law = some ⟨oc_law, od_law, .func (PySem.W.fnOf "law" "law" (defArgs st_law) (defBody st_law) (defScope st_law) .none kV_law dc_law pm_law an_law cd_law ct_law), sl_law⟩)
    (c_law : PySem.W.codeIn K cd_law "law" = true)
    (k_law : PySem.W.keepIn K (.ref f_law) = true)
    (z_abs : PySem.W.nsIn K mainGlobals "abs" = some none)
    (z_all : PySem.W.nsIn K mainGlobals "all" = some none)
    (z_any : PySem.W.nsIn K mainGlobals "any" = some none)
    (z_bool : PySem.W.nsIn K mainGlobals "bool" = some none)
    (z_enumerate : PySem.W.nsIn K mainGlobals "enumerate" = some none)
    (z_int : PySem.W.nsIn K mainGlobals "int" = some none)
    (z_isinstance : PySem.W.nsIn K mainGlobals "isinstance" = some none)
    (z_len : PySem.W.nsIn K mainGlobals "len" = some none)
    (z_max : PySem.W.nsIn K mainGlobals "max" = some none)
    (z_min : PySem.W.nsIn K mainGlobals "min" = some none)
    (z_range : PySem.W.nsIn K mainGlobals "range" = some none)
    (z_repr : PySem.W.nsIn K mainGlobals "repr" = some none)
    (z_sorted : PySem.W.nsIn K mainGlobals "sorted" = some none)
    (z_str : PySem.W.nsIn K mainGlobals "str" = some none)
    (z_sum : PySem.W.nsIn K mainGlobals "sum" = some none)
    (z_tuple : PySem.W.nsIn K mainGlobals "tuple" = some none)
    (z_zip : PySem.W.nsIn K mainGlobals "zip" = some none)
    (y_MOST_LOOKED : PySem.W.nsIn K mainGlobals "MOST_LOOKED" = some (some (.int 100 t_MOST_LOOKED)))
    (y_MOST_PARTIES : PySem.W.nsIn K mainGlobals "MOST_PARTIES" = some (some (.int 6 t_MOST_PARTIES)))
    (y_MOST_SEATS : PySem.W.nsIn K mainGlobals "MOST_SEATS" = some (some (.int 200 t_MOST_SEATS)))
    (y_RULES : PySem.W.nsIn K mainGlobals "RULES" = some (some (.ref r_RULES)))
    (w_RULES : K.lookup r_RULES = some ⟨.type "tuple", dd_RULES, .seq #[.str "first" q_RULES_0, .str "middle" q_RULES_1, .str "up" q_RULES_2, .str "rest" q_RULES_3] nn_RULES, ss_RULES⟩)
    : ∃ fd : FuncData, (∀ (s : Shared) (u : Value), BindsTo s fd ⟨[u], []⟩ [("script", u)]) ∧ ∀ base : Heap, K.In base → base.Ns mainGlobals mg → FnG true P w K mg base L2.CX0 6 fa fd ["script"] (spLaw K) := by
  have e := hfa.symm.trans (PySem.W.mg_of X G a_law)
  cases e
  have GG : Glo K mg := { b_abs := PySem.W.mg_none_of X G z_abs, b_all := PySem.W.mg_none_of X G z_all, b_any := PySem.W.mg_none_of X G z_any, b_bool := PySem.W.mg_none_of X G z_bool, b_enumerate := PySem.W.mg_none_of X G z_enumerate, b_int := PySem.W.mg_none_of X G z_int, b_isinstance := PySem.W.mg_none_of X G z_isinstance, b_len := PySem.W.mg_none_of X G z_len, b_max := PySem.W.mg_none_of X G z_max, b_min := PySem.W.mg_none_of X G z_min, b_range := PySem.W.mg_none_of X G z_range, b_repr := PySem.W.mg_none_of X G z_repr, b_sorted := PySem.W.mg_none_of X G z_sorted, b_str := PySem.W.mg_none_of X G z_str, b_sum := PySem.W.mg_none_of X G z_sum, b_tuple := PySem.W.mg_none_of X G z_tuple, b_zip := PySem.W.mg_none_of X G z_zip, c_MOST_LOOKED := ⟨_, PySem.W.mg_of X G y_MOST_LOOKED⟩, c_MOST_PARTIES := ⟨_, PySem.W.mg_of X G y_MOST_PARTIES⟩, c_MOST_SEATS := ⟨_, PySem.W.mg_of X G y_MOST_SEATS⟩, t_RULES := ⟨_, PySem.W.mg_of X G y_RULES, fun F => .tup (.inr ⟨_, _, _, w_RULES, rfl, rfl, by first | decide | exact small_sz (by simp), (.cons (show L2.RelV (V.str "first") _ from ⟨_, rfl⟩) (.cons (show L2.RelV (V.str "middle") _ from ⟨_, rfl⟩) (.cons (show L2.RelV (V.str "up") _ from ⟨_, rfl⟩) (.cons (show L2.RelV (V.str "rest") _ from ⟨_, rfl⟩) .nil))))⟩) (.cons (.str _) (.cons (.str _) (.cons (.str _) (.cons (.str _) .nil))))⟩ }
  have F_is_integer := fun_mk (st := st_is_integer) l_is_integer c_is_integer k_is_integer
  have b_is_integer := F_is_integer.binds (ps := ["thing"]) fun _ _ _ _ _ _ us hl => match us, hl with | [_], _ => rfl
  have g_is_integer := PySem.W.mg_of X G a_is_integer
  have F_is_within := fun_mk (st := st_is_within) l_is_within c_is_within k_is_within
  have b_is_within := F_is_within.binds (ps := ["thing", "least", "most"]) fun _ _ _ _ _ _ us hl => match us, hl with | [_, _, _], _ => rfl
  have g_is_within := PySem.W.mg_of X G a_is_within
  have F_is_number := fun_mk (st := st_is_number) l_is_number c_is_number k_is_number
  have b_is_number := F_is_number.binds (ps := ["thing"]) fun _ _ _ _ _ _ us hl => match us, hl with | [_], _ => rfl
  have g_is_number := PySem.W.mg_of X G a_is_number
  have F_is_tuple := fun_mk (st := st_is_tuple) l_is_tuple c_is_tuple k_is_tuple
  have b_is_tuple := F_is_tuple.binds (ps := ["thing", "size"]) fun _ _ _ _ _ _ us hl => match us, hl with | [_, _], _ => rfl
  have g_is_tuple := PySem.W.mg_of X G a_is_tuple
  have F_is_sized := fun_mk (st := st_is_sized) l_is_sized c_is_sized k_is_sized
  have b_is_sized := F_is_sized.binds (ps := ["thing", "least", "most"]) fun _ _ _ _ _ _ us hl => match us, hl with | [_, _, _], _ => rfl
  have g_is_sized := PySem.W.mg_of X G a_is_sized
  have F_divisor_of := fun_mk (st := st_divisor_of) l_divisor_of c_divisor_of k_divisor_of
  have b_divisor_of := F_divisor_of.binds (ps := ["one", "other"]) fun _ _ _ _ _ _ us hl => match us, hl with | [_, _], _ => rfl
  have g_divisor_of := PySem.W.mg_of X G a_divisor_of
  have F_lowest := fun_mk (st := st_lowest) l_lowest c_lowest k_lowest
  have b_lowest := F_lowest.binds (ps := ["p", "q"]) fun _ _ _ _ _ _ us hl => match us, hl with | [_, _], _ => rfl
  have g_lowest := PySem.W.mg_of X G a_lowest
  have F_is_below := fun_mk (st := st_is_below) l_is_below c_is_below k_is_below
  have b_is_below := F_is_below.binds (ps := ["one", "other"]) fun _ _ _ _ _ _ us hl => match us, hl with | [_, _], _ => rfl
  have g_is_below := PySem.W.mg_of X G a_is_below
  have F_is_most := fun_mk (st := st_is_most) l_is_most c_is_most k_is_most
  have b_is_most := F_is_most.binds (ps := ["one", "other"]) fun _ _ _ _ _ _ us hl => match us, hl with | [_, _], _ => rfl
  have g_is_most := PySem.W.mg_of X G a_is_most
  have F_greatest := fun_mk (st := st_greatest) l_greatest c_greatest k_greatest
  have b_greatest := F_greatest.binds (ps := ["fractions"]) fun _ _ _ _ _ _ us hl => match us, hl with | [_], _ => rfl
  have g_greatest := PySem.W.mg_of X G a_greatest
  have F_least := fun_mk (st := st_least) l_least c_least k_least
  have b_least := F_least.binds (ps := ["fractions"]) fun _ _ _ _ _ _ us hl => match us, hl with | [_], _ => rfl
  have g_least := PySem.W.mg_of X G a_least
  have F_check_votes := fun_mk (st := st_check_votes) l_check_votes c_check_votes k_check_votes
  have b_check_votes := F_check_votes.binds (ps := ["thing"]) fun _ _ _ _ _ _ us hl => match us, hl with | [_], _ => rfl
  have g_check_votes := PySem.W.mg_of X G a_check_votes
  have F_is_ahead := fun_mk (st := st_is_ahead) l_is_ahead c_is_ahead k_is_ahead
  have b_is_ahead := F_is_ahead.binds (ps := ["one", "other"]) fun _ _ _ _ _ _ us hl => match us, hl with | [_, _], _ => rfl
  have g_is_ahead := PySem.W.mg_of X G a_is_ahead
  have F_step_of := fun_mk (st := st_step_of) l_step_of c_step_of k_step_of
  have b_step_of := F_step_of.binds (ps := ["rule", "had"]) fun _ _ _ _ _ _ us hl => match us, hl with | [_, _], _ => rfl
  have g_step_of := PySem.W.mg_of X G a_step_of
  have F_one_by_one := fun_mk (st := st_one_by_one) l_one_by_one c_one_by_one k_one_by_one
  have b_one_by_one := F_one_by_one.binds (ps := ["votes", "many", "rule"]) fun _ _ _ _ _ _ us hl => match us, hl with | [_, _, _], _ => rfl
  have g_one_by_one := PySem.W.mg_of X G a_one_by_one
  have F_by_rests := fun_mk (st := st_by_rests) l_by_rests c_by_rests k_by_rests
  have b_by_rests := F_by_rests.binds (ps := ["votes", "many"]) fun _ _ _ _ _ _ us hl => match us, hl with | [_, _], _ => rfl
  have g_by_rests := PySem.W.mg_of X G a_by_rests
  have F_raw_seats := fun_mk (st := st_raw_seats) l_raw_seats c_raw_seats k_raw_seats
  have b_raw_seats := F_raw_seats.binds (ps := ["votes", "many", "rule"]) fun _ _ _ _ _ _ us hl => match us, hl with | [_, _, _], _ => rfl
  have g_raw_seats := PySem.W.mg_of X G a_raw_seats
  have F_check_rule := fun_mk (st := st_check_rule) l_check_rule c_check_rule k_check_rule
  have b_check_rule := F_check_rule.binds (ps := ["thing", "rules"]) fun _ _ _ _ _ _ us hl => match us, hl with | [_, _], _ => rfl
  have g_check_rule := PySem.W.mg_of X G a_check_rule
  have F_seats := fun_mk (st := st_seats) l_seats c_seats k_seats
  have b_seats := F_seats.binds (ps := ["votes", "many", "rule"]) fun _ _ _ _ _ _ us hl => match us, hl with | [_, _, _], _ => rfl
  have g_seats := PySem.W.mg_of X G a_seats
  have F_divisors := fun_mk (st := st_divisors) l_divisors c_divisors k_divisors
  have b_divisors := F_divisors.binds (ps := ["votes", "seats", "rule"]) fun _ _ _ _ _ _ us hl => match us, hl with | [_, _, _], _ => rfl
  have g_divisors := PySem.W.mg_of X G a_divisors
  have F_lost_seat := fun_mk (st := st_lost_seat) l_lost_seat c_lost_seat k_lost_seat
  have b_lost_seat := F_lost_seat.binds (ps := ["votes", "most"]) fun _ _ _ _ _ _ us hl => match us, hl with | [_, _], _ => rfl
  have g_lost_seat := PySem.W.mg_of X G a_lost_seat
  have F_law_draw := fun_mk (st := st__law_draw) l_law_draw c_law_draw k_law_draw
  have b_law_draw := F_law_draw.binds (ps := ["hand", "many"]) fun _ _ _ _ _ _ us hl => match us, hl with | [_, _], _ => rfl
  have g_law_draw := PySem.W.mg_of X G a_law_draw
  have F_law_any := fun_mk (st := st__law_any) l_law_any c_law_any k_law_any
  have b_law_any := F_law_any.binds (ps := ["hand", "things"]) fun _ _ _ _ _ _ us hl => match us, hl with | [_, _], _ => rfl
  have g_law_any := PySem.W.mg_of X G a_law_any
  have F_law_like := fun_mk (st := st__law_like) l_law_like c_law_like k_law_like
  have b_law_like := F_law_like.binds (ps := ["told", "due"]) fun _ _ _ _ _ _ us hl => match us, hl with | [_, _], _ => rfl
  have g_law_like := PySem.W.mg_of X G a_law_like
  have F_law_low := fun_mk (st := st__law_low) l_law_low c_law_low k_law_low
  have b_law_low := F_law_low.binds (ps := ["top", "bottom"]) fun _ _ _ _ _ _ us hl => match us, hl with | [_, _], _ => rfl
  have g_law_low := PySem.W.mg_of X G a_law_low
  have F_law_below := fun_mk (st := st__law_below) l_law_below c_law_below k_law_below
  have b_law_below := F_law_below.binds (ps := ["one", "other"]) fun _ _ _ _ _ _ us hl => match us, hl with | [_, _], _ => rfl
  have g_law_below := PySem.W.mg_of X G a_law_below
  have F_law_votes := fun_mk (st := st__law_votes) l_law_votes c_law_votes k_law_votes
  have b_law_votes := F_law_votes.binds (ps := ["hand"]) fun _ _ _ _ _ _ us hl => match us, hl with | [_], _ => rfl
  have g_law_votes := PySem.W.mg_of X G a_law_votes
  have F_law_next := fun_mk (st := st__law_next) l_law_next c_law_next k_law_next
  have b_law_next := F_law_next.binds (ps := ["votes", "told", "rule"]) fun _ _ _ _ _ _ us hl => match us, hl with | [_, _, _], _ => rfl
  have g_law_next := PySem.W.mg_of X G a_law_next
  have F_law_seats := fun_mk (st := st__law_seats) l_law_seats c_law_seats k_law_seats
  have b_law_seats := F_law_seats.binds (ps := ["votes", "many", "rule"]) fun _ _ _ _ _ _ us hl => match us, hl with | [_, _, _], _ => rfl
  have g_law_seats := PySem.W.mg_of X G a_law_seats
  have F_law_ends := fun_mk (st := st__law_ends) l_law_ends c_law_ends k_law_ends
  have b_law_ends := F_law_ends.binds (ps := ["votes", "told", "rule"]) fun _ _ _ _ _ _ us hl => match us, hl with | [_, _, _], _ => rfl
  have g_law_ends := PySem.W.mg_of X G a_law_ends
  have F_law_are_seats_right := fun_mk (st := st__law_are_seats_right) l_law_are_seats_right c_law_are_seats_right k_law_are_seats_right
  have b_law_are_seats_right := F_law_are_seats_right.binds (ps := ["hand", "votes"]) fun _ _ _ _ _ _ us hl => match us, hl with | [_, _], _ => rfl
  have g_law_are_seats_right := PySem.W.mg_of X G a_law_are_seats_right
  have F_law_lost := fun_mk (st := st__law_lost) l_law_lost c_law_lost k_law_lost
  have b_law_lost := F_law_lost.binds (ps := ["votes", "most"]) fun _ _ _ _ _ _ us hl => match us, hl with | [_, _], _ => rfl
  have g_law_lost := PySem.W.mg_of X G a_law_lost
  have F_law_hand := fun_mk (st := st__law_hand) l_law_hand c_law_hand k_law_hand
  have b_law_hand := F_law_hand.binds (ps := ["script"]) fun _ _ _ _ _ _ us hl => match us, hl with | [_], _ => rfl
  have g_law_hand := PySem.W.mg_of X G a_law_hand
  have F_law := fun_mk (st := st_law) l_law c_law k_law
  have b_law := F_law.binds (ps := ["script"]) fun _ _ _ _ _ _ us hl => match us, hl with | [_], _ => rfl
  refine ⟨PySem.W.fnOf "law" "law" (defArgs st_law) (defBody st_law) (defScope st_law) .none kV_law dc_law pm_law an_law cd_law ct_law, fun s u => .of_eq rfl, fun base _ _ => ?_⟩
  have K_is_integer : ∀ g : Bool, CalG g P w K mg base 1 "is_integer" S_is_integer 1 := fun g => DL.c_is_integer GG  F_is_integer g_is_integer b_is_integer v_is_integer
  have K_is_within : ∀ g : Bool, CalG g P w K mg base 2 "is_within" S_is_within 3 := fun g => DL.c_is_within GG (K_is_integer g) F_is_within g_is_within b_is_within v_is_within
  have K_is_number : ∀ g : Bool, CalG g P w K mg base 2 "is_number" S_is_number 1 := fun g => DL.c_is_number GG (K_is_integer g) F_is_number g_is_number b_is_number v_is_number
  have K_is_tuple : ∀ g : Bool, CalG g P w K mg base 1 "is_tuple" S_is_tuple 2 := fun g => DL.c_is_tuple GG  F_is_tuple g_is_tuple b_is_tuple v_is_tuple
  have K_is_sized : ∀ g : Bool, CalG g P w K mg base 1 "is_sized" S_is_sized 3 := fun g => DL.c_is_sized GG  F_is_sized g_is_sized b_is_sized v_is_sized
  have K_divisor_of : ∀ g : Bool, CalG g P w K mg base 1 "divisor_of" S_divisor_of 2 := fun g => DL.c_divisor_of GG  F_divisor_of g_divisor_of b_divisor_of v_divisor_of
  have K_lowest : ∀ g : Bool, CalG g P w K mg base 2 "lowest" S_lowest 2 := fun g => DL.c_lowest GG (K_divisor_of g) F_lowest g_lowest b_lowest v_lowest
  have K_is_below : ∀ g : Bool, CalG g P w K mg base 1 "is_below" S_is_below 2 := fun g => DL.c_is_below GG  F_is_below g_is_below b_is_below v_is_below
  have K_is_most : ∀ g : Bool, CalG g P w K mg base 1 "is_most" S_is_most 2 := fun g => DL.c_is_most GG  F_is_most g_is_most b_is_most v_is_most
  have K_greatest : ∀ g : Bool, CalG g P w K mg base 2 "greatest" S_greatest 1 := fun g => DL.c_greatest GG (K_is_below g) F_greatest g_greatest b_greatest v_greatest
  have K_least : ∀ g : Bool, CalG g P w K mg base 2 "least" S_least 1 := fun g => DL.c_least GG (K_is_below g) F_least g_least b_least v_least
  have K_check_votes : ∀ g : Bool, CalG g P w K mg base 3 "check_votes" S_check_votes 1 := fun g => DL.c_check_votes GG (K_is_sized g) (K_is_number g) F_check_votes g_check_votes b_check_votes v_check_votes
  have K_is_ahead : ∀ g : Bool, CalG g P w K mg base 1 "is_ahead" S_is_ahead 2 := fun g => DL.c_is_ahead GG  F_is_ahead g_is_ahead b_is_ahead v_is_ahead
  have K_step_of : ∀ g : Bool, CalG g P w K mg base 1 "step_of" S_step_of 2 := fun g => DL.c_step_of GG  F_step_of g_step_of b_step_of v_step_of
  have K_one_by_one : ∀ g : Bool, CalG g P w K mg base 2 "one_by_one" S_one_by_one 3 := fun g => DL.c_one_by_one GG (K_step_of g) (K_is_ahead g) F_one_by_one g_one_by_one b_one_by_one v_one_by_one
  have K_by_rests : ∀ g : Bool, CalG g P w K mg base 1 "by_rests" S_by_rests 2 := fun g => DL.c_by_rests GG  F_by_rests g_by_rests b_by_rests v_by_rests
  have K_raw_seats : ∀ g : Bool, CalG g P w K mg base 3 "raw_seats" S_raw_seats 3 := fun g => DL.c_raw_seats GG (K_by_rests g) (K_one_by_one g) F_raw_seats g_raw_seats b_raw_seats v_raw_seats
  have K_check_rule : ∀ g : Bool, CalG g P w K mg base 1 "check_rule" S_check_rule 2 := fun g => DL.c_check_rule GG  F_check_rule g_check_rule b_check_rule v_check_rule
  have K_seats : ∀ g : Bool, CalG g P w K mg base 4 "seats" S_seats 3 := fun g => DL.c_seats GG (K_check_votes g) (K_is_within g) (K_check_rule g) (K_raw_seats g) F_seats g_seats b_seats v_seats
  have K_divisors : ∀ g : Bool, CalG g P w K mg base 4 "divisors" S_divisors 3 := fun g => DL.c_divisors GG (K_check_votes g) (K_is_tuple g) (K_is_number g) (K_check_rule g) (K_lowest g) (K_greatest g) (K_least g) (K_is_most g) (K_is_below g) F_divisors g_divisors b_divisors v_divisors
  have K_lost_seat : ∀ g : Bool, CalG g P w K mg base 4 "lost_seat" S_lost_seat 2 := fun g => DL.c_lost_seat GG (K_check_votes g) (K_is_within g) (K_by_rests g) F_lost_seat g_lost_seat b_lost_seat v_lost_seat
  have K_law_draw : ∀ g : Bool, CalG g P w K mg base 1 "_law_draw" S__law_draw 2 := fun g => DL.c__law_draw GG  F_law_draw g_law_draw b_law_draw
  have K_law_any : ∀ g : Bool, CalG g P w K mg base 2 "_law_any" S__law_any 2 := fun g => DL.c__law_any GG (K_law_draw g) F_law_any g_law_any b_law_any v__law_any
  have K_law_like : CalG true P w K mg base 1 "_law_like" S__law_like 2 := DL.c__law_like GG  F_law_like g_law_like b_law_like v__law_like
  have K_law_low : ∀ g : Bool, CalG g P w K mg base 1 "_law_low" S__law_low 2 := fun g => DL.c__law_low GG  F_law_low g_law_low b_law_low v__law_low
  have K_law_below : ∀ g : Bool, CalG g P w K mg base 1 "_law_below" S__law_below 2 := fun g => DL.c__law_below GG  F_law_below g_law_below b_law_below v__law_below
  have K_law_votes : ∀ g : Bool, CalG g P w K mg base 3 "_law_votes" S__law_votes 1 := fun g => DL.c__law_votes GG (K_law_any g) (K_law_draw g) F_law_votes g_law_votes b_law_votes v__law_votes
  have K_law_next : ∀ g : Bool, CalG g P w K mg base 2 "_law_next" S__law_next 3 := fun g => DL.c__law_next GG (K_law_below g) F_law_next g_law_next b_law_next v__law_next
  have K_law_seats : ∀ g : Bool, CalG g P w K mg base 3 "_law_seats" S__law_seats 3 := fun g => DL.c__law_seats GG (K_law_next g) F_law_seats g_law_seats b_law_seats v__law_seats
  have K_law_ends : ∀ g : Bool, CalG g P w K mg base 2 "_law_ends" S__law_ends 3 := fun g => DL.c__law_ends GG (K_law_low g) (K_law_below g) F_law_ends g_law_ends b_law_ends v__law_ends
  have K_law_are_seats_right : CalG true P w K mg base 5 "_law_are_seats_right" S__law_are_seats_right 2 := DL.c__law_are_seats_right GG (K_law_draw true) (K_law_any true) (K_law_seats true) (K_seats true) K_law_like (K_divisors true) (K_law_ends true) F_law_are_seats_right g_law_are_seats_right b_law_are_seats_right v__law_are_seats_right
  have K_law_lost : ∀ g : Bool, CalG g P w K mg base 4 "_law_lost" S__law_lost 2 := fun g => DL.c__law_lost GG (K_law_seats g) F_law_lost g_law_lost b_law_lost v__law_lost
  exact fn_law GG (fn_hand GG F_law_hand) g_law_hand k_law_hand b_law_hand (K_law_votes true) (K_law_any true) K_law_are_seats_right (K_lost_seat true) (K_law_lost true) K_law_like F_law
theorem law_go {P : Program} {w : World} {K : PySem.W.Frag} {mg mb : Str → Option Value} {fa a : Addr} {S : Shared} {vs : List Value} {ns : List Int}
    {f_is_integer f_is_within f_is_number f_is_tuple f_is_sized f_divisor_of f_lowest f_is_below f_is_most f_greatest f_least f_check_votes f_is_ahead f_step_of f_one_by_one f_by_rests f_raw_seats f_check_rule f_seats f_divisors f_lost_seat f_law_draw f_law_any f_law_like f_law_low f_law_below f_law_votes f_law_next f_law_seats f_law_ends f_law_are_seats_right f_law_lost f_law_hand f_law r_RULES : Addr}
    {od_is_integer an_is_integer od_is_within an_is_within od_is_number an_is_number od_is_tuple an_is_tuple od_is_sized an_is_sized od_divisor_of an_divisor_of od_lowest an_lowest od_is_below an_is_below od_is_most an_is_most od_greatest an_greatest od_least an_least od_check_votes an_check_votes od_is_ahead an_is_ahead od_step_of an_step_of od_one_by_one an_one_by_one od_by_rests an_by_rests od_raw_seats an_raw_seats od_check_rule an_check_rule od_seats an_seats od_divisors an_divisors od_lost_seat an_lost_seat od_law_draw an_law_draw od_law_any an_law_any od_law_like an_law_like od_law_low an_law_low od_law_below an_law_below od_law_votes an_law_votes od_law_next an_law_next od_law_seats an_law_seats od_law_ends an_law_ends od_law_are_seats_right an_law_are_seats_right od_law_lost an_law_lost od_law_hand an_law_hand od_law an_law : Option Addr}
    {sl_is_integer sl_is_within sl_is_number sl_is_tuple sl_is_sized sl_divisor_of sl_lowest sl_is_below sl_is_most sl_greatest sl_least sl_check_votes sl_is_ahead sl_step_of sl_one_by_one sl_by_rests sl_raw_seats sl_check_rule sl_seats sl_divisors sl_lost_seat sl_law_draw sl_law_any sl_law_like sl_law_low sl_law_below sl_law_votes sl_law_next sl_law_seats sl_law_ends sl_law_are_seats_right sl_law_lost sl_law_hand sl_law : Array (Option Value)}
    {oc_is_integer kV_is_integer dc_is_integer pm_is_integer ct_is_integer cd_is_integer oc_is_within kV_is_within dc_is_within pm_is_within ct_is_within cd_is_within oc_is_number kV_is_number dc_is_number pm_is_number ct_is_number cd_is_number oc_is_tuple kV_is_tuple dc_is_tuple pm_is_tuple ct_is_tuple cd_is_tuple oc_is_sized kV_is_sized dc_is_sized pm_is_sized ct_is_sized cd_is_sized oc_divisor_of kV_divisor_of dc_divisor_of pm_divisor_of ct_divisor_of cd_divisor_of oc_lowest kV_lowest dc_lowest pm_lowest ct_lowest cd_lowest oc_is_below kV_is_below dc_is_below pm_is_below ct_is_below cd_is_below oc_is_most kV_is_most dc_is_most pm_is_most ct_is_most cd_is_most oc_greatest kV_greatest dc_greatest pm_greatest ct_greatest cd_greatest oc_least kV_least dc_least pm_least ct_least cd_least oc_check_votes kV_check_votes dc_check_votes pm_check_votes ct_check_votes cd_check_votes oc_is_ahead kV_is_ahead dc_is_ahead pm_is_ahead ct_is_ahead cd_is_ahead oc_step_of kV_step_of dc_step_of pm_step_of ct_step_of cd_step_of oc_one_by_one kV_one_by_one dc_one_by_one pm_one_by_one ct_one_by_one cd_one_by_one oc_by_rests kV_by_rests dc_by_rests pm_by_rests ct_by_rests cd_by_rests oc_raw_seats kV_raw_seats dc_raw_seats pm_raw_seats ct_raw_seats cd_raw_seats oc_check_rule kV_check_rule dc_check_rule pm_check_rule ct_check_rule cd_check_rule oc_seats kV_seats dc_seats pm_seats ct_seats cd_seats oc_divisors kV_divisors dc_divisors pm_divisors ct_divisors cd_divisors oc_lost_seat kV_lost_seat dc_lost_seat pm_lost_seat ct_lost_seat cd_lost_seat oc_law_draw kV_law_draw dc_law_draw pm_law_draw ct_law_draw cd_law_draw oc_law_any kV_law_any dc_law_any pm_law_any ct_law_any cd_law_any oc_law_like kV_law_like dc_law_like pm_law_like ct_law_like cd_law_like oc_law_low kV_law_low dc_law_low pm_law_low ct_law_low cd_law_low oc_law_below kV_law_below dc_law_below pm_law_below ct_law_below cd_law_below oc_law_votes kV_law_votes dc_law_votes pm_law_votes ct_law_votes cd_law_votes oc_law_next kV_law_next dc_law_next pm_law_next ct_law_next cd_law_next oc_law_seats kV_law_seats dc_law_seats pm_law_seats ct_law_seats cd_law_seats oc_law_ends kV_law_ends dc_law_ends pm_law_ends ct_law_ends cd_law_ends oc_law_are_seats_right kV_law_are_seats_right dc_law_are_seats_right pm_law_are_seats_right ct_law_are_seats_right cd_law_are_seats_right oc_law_lost kV_law_lost dc_law_lost pm_law_lost ct_law_lost cd_law_lost oc_law_hand kV_law_hand dc_law_hand pm_law_hand ct_law_hand cd_law_hand oc_law kV_law dc_law pm_law ct_law cd_law : Value}
    {t_MOST_LOOKED t_MOST_PARTIES t_MOST_SEATS : Tok}
    {q_RULES_0 q_RULES_1 q_RULES_2 q_RULES_3 : Tok} {dd_RULES : Option Addr} {ss_RULES : Array (Option Value)} {nn_RULES : Nat}
    (inK : K.In S.heap) (nsG : S.heap.Ns mainGlobals mg) (nsB : S.heap.Ns builtinsNs mb) (boots : ∀ y : Str, y ≠ "__name__" → mb y = bootBuiltins y) (free : S.heap.NoLimit) (gen0 : S.gens = #[])
    (scr : S.heap.get? a = some { cls := .type "list", data := .seq vs.toArray }) (intz : IntsAre vs ns) (short : ns.length ≤ 63) (hfa : mg "law" = some (.ref fa))
    (a_is_integer : PySem.W.nsIn K mainGlobals "is_integer" = some (some (.ref f_is_integer)))
    (l_is_integer : K.lookup f_is_integer = some ⟨oc_is_integer, od_is_integer, .func (PySem.W.fnOf "is_integer" "is_integer" (defArgs st_is_integer) (defBody st_is_integer) (defScope st_is_integer) .none kV_is_integer dc_is_integer pm_is_integer an_is_integer cd_is_integer ct_is_integer), sl_is_integer⟩)
    (c_is_integer : PySem.W.codeIn K cd_is_integer "is_integer" = true)
    (k_is_integer : PySem.W.keepIn K (.ref f_is_integer) = true)
    (a_is_within : PySem.W.nsIn K mainGlobals "is_within" = some (some (.ref f_is_within)))
    (l_is_within : K.lookup f_is_within = some ⟨oc_is_within, od_is_within, .func (PySem.W.fnOf "is_within" "is_within" (defArgs st_is_within) (defBody st_is_within) (defScope st_is_within) .none kV_is_within dc_is_within pm_is_within an_is_within cd_is_within ct_is_within), sl_is_within⟩)
    (c_is_within : PySem.W.codeIn K cd_is_within "is_within" = true)
    (k_is_within : PySem.W.keepIn K (.ref f_is_within) = true)
    (a_is_number : PySem.W.nsIn K mainGlobals "is_number" = some (some (.ref f_is_number)))
    (l_is_number : K.lookup f_is_number = some ⟨oc_is_number, od_is_number, .func (PySem.W.fnOf "is_number" "is_number" (defArgs st_is_number) (defBody st_is_number) (defScope st_is_number) .none kV_is_number dc_is_number pm_is_number an_is_number cd_is_number ct_is_number), sl_is_number⟩)
    (c_is_number : PySem.W.codeIn K cd_is_number "is_number" = true)
    (k_is_number : PySem.W.keepIn K (.ref f_is_number) = true)
    (a_is_tuple : PySem.W.nsIn K mainGlobals "is_tuple" = some (some (.ref f_is_tuple)))
    (l_is_tuple : K.lookup f_is_tuple = some ⟨oc_is_tuple, od_is_tuple, .func (PySem.W.fnOf "is_tuple" "is_tuple" (defArgs st_is_tuple) (defBody st_is_tuple) (defScope st_is_tuple) .none kV_is_tuple dc_is_tuple pm_is_tuple an_is_tuple cd_is_tuple ct_is_tuple), sl_is_tuple⟩)
    (c_is_tuple : PySem.W.codeIn K cd_is_tuple "is_tuple" = true)
    (k_is_tuple : PySem.W.keepIn K (.ref f_is_tuple) = true)
    (a_is_sized : PySem.W.nsIn K mainGlobals "is_sized" = some (some (.ref f_is_sized)))
    (l_is_sized : K.lookup f_is_sized = some ⟨oc_is_sized, od_is_sized, .func (PySem.W.fnOf "is_sized" "is_sized" (defArgs st_is_sized) (defBody st_is_sized) (defScope st_is_sized) .none kV_is_sized dc_is_sized pm_is_sized an_is_sized cd_is_sized ct_is_sized), sl_is_sized⟩)
    (c_is_sized : PySem.W.codeIn K cd_is_sized "is_sized" = true)
    (k_is_sized : PySem.W.keepIn K (.ref f_is_sized) = true)
    (a_divisor_of : PySem.W.nsIn K mainGlobals "divisor_of" = some (some (.ref f_divisor_of)))
    (l_divisor_of : K.lookup f_divisor_of = some ⟨oc_divisor_of, od_divisor_of, .func (PySem.W.fnOf "divisor_of" "divisor_of" (defArgs st_divisor_of) (defBody st_divisor_of) (defScope st_divisor_of) .none kV_divisor_of dc_divisor_of pm_divisor_of an_divisor_of cd_divisor_of ct_divisor_of), sl_divisor_of⟩)
    (c_divisor_of : PySem.W.codeIn K cd_divisor_of "divisor_of" = true)
    (k_divisor_of : PySem.W.keepIn K (.ref f_divisor_of) = true)
    (a_lowest : PySem.W.nsIn K mainGlobals "lowest" = some (some (.ref f_lowest)))
    (l_lowest : K.lookup f_lowest = some ⟨oc_lowest, od_lowest, .func (PySem.W.fnOf "lowest" "lowest" (defArgs st_lowest) (defBody st_lowest) (defScope st_lowest) .none kV_lowest dc_lowest pm_lowest an_lowest cd_lowest ct_lowest), sl_lowest⟩)
    (c_lowest : PySem.W.codeIn K cd_lowest "lowest" = true)
    (k_lowest : PySem.W.keepIn K (.ref f_lowest) = true)
    (a_is_below : PySem.W.nsIn K mainGlobals "is_below" = some (some (.ref f_is_below)))
    (l_is_below : K.lookup f_is_below = some ⟨oc_is_below, od_is_below, .func (PySem.W.fnOf "is_below" "is_below" (defArgs st_is_below) (defBody st_is_below) (defScope st_is_below) .none kV_is_below dc_is_below pm_is_below an_is_below cd_is_below ct_is_below), sl_is_below⟩)
    (c_is_below : PySem.W.codeIn K cd_is_below "is_below" = true)
    (k_is_below : PySem.W.keepIn K (.ref f_is_below) = true)
    (a_is_most : PySem.W.nsIn K mainGlobals "is_most" = some (some (.ref f_is_most)))
    (l_is_most : K.lookup f_is_most = some ⟨oc_is_most, od_is_most, .func (PySem.W.fnOf "is_most" "is_most" (defArgs st_is_most) (defBody st_is_most) (defScope st_is_most) .none kV_is_most dc_is_most pm_is_most an_is_most cd_is_most ct_is_most), sl_is_most⟩)
    (c_is_most : PySem.W.codeIn K cd_is_most "is_most" = true)
    (k_is_most : PySem.W.keepIn K (.ref f_is_most) = true)
    (a_greatest : PySem.W.nsIn K mainGlobals "greatest" = some (some (.ref f_greatest)))
    (l_greatest : K.lookup f_greatest = some ⟨oc_greatest, od_greatest, .func (PySem.W.fnOf "greatest" "greatest" (defArgs st_greatest) (defBody st_greatest) (defScope st_greatest) .none kV_greatest dc_greatest pm_greatest an_greatest cd_greatest ct_greatest), sl_greatest⟩)
    (c_greatest : PySem.W.codeIn K cd_greatest "greatest" = true)
    (k_greatest : PySem.W.keepIn K (.ref f_greatest) = true)
    (a_least : PySem.W.nsIn K mainGlobals "least" = some (some (.ref f_least)))
    (l_least : K.lookup f_least = some ⟨oc_least, od_least, .func (PySem.W.fnOf "least" "least" (defArgs st_least) (defBody st_least) (defScope st_least) .none kV_least dc_least pm_least an_least cd_least ct_least), sl_least⟩)
    (c_least : PySem.W.codeIn K cd_least "least" = true)
    (k_least : PySem.W.keepIn K (.ref f_least) = true)
    (a_check_votes : PySem.W.nsIn K mainGlobals "check_votes" = some (some (.ref f_check_votes)))
    (l_check_votes : K.lookup f_check_votes = some ⟨oc_check_votes, od_check_votes, .func (PySem.W.fnOf "check_votes" "check_votes" (defArgs st_check_votes) (defBody st_check_votes) (defScope st_check_votes) .none kV_check_votes dc_check_votes pm_check_votes an_check_votes cd_check_votes ct_check_votes), sl_check_votes⟩)
    (c_check_votes : PySem.W.codeIn K cd_check_votes "check_votes" = true)
    (k_check_votes : PySem.W.keepIn K (.ref f_check_votes) = true)
    (a_is_ahead : PySem.W.nsIn K mainGlobals "is_ahead" = some (some (.ref f_is_ahead)))
    (l_is_ahead : K.lookup f_is_ahead = some ⟨oc_is_ahead, od_is_ahead, .func (PySem.W.fnOf "is_ahead" "is_ahead" (defArgs st_is_ahead) (defBody st_is_ahead) (defScope st_is_ahead) .none kV_is_ahead dc_is_ahead pm_is_ahead an_is_ahead cd_is_ahead ct_is_ahead), sl_is_ahead⟩)
    (c_is_ahead : PySem.W.codeIn K cd_is_ahead "is_ahead" = true)
    (k_is_ahead : PySem.W.keepIn K (.ref f_is_ahead) = true)
    (a_step_of : PySem.W.nsIn K mainGlobals "step_of" = some (some (.ref f_step_of)))
    (l_step_of : K.lookup f_step_of = some ⟨oc_step_of, od_step_of, .func (PySem.W.fnOf "step_of" "step_of" (defArgs st_step_of) (defBody st_step_of) (defScope st_step_of) .none kV_step_of dc_step_of pm_step_of an_step_of cd_step_of ct_step_of), sl_step_of⟩)
    (c_step_of : PySem.W.codeIn K cd_step_of "step_of" = true)
    (k_step_of : PySem.W.keepIn K (.ref f_step_of) = true)
    (a_one_by_one : PySem.W.nsIn K mainGlobals "one_by_one" = some (some (.ref f_one_by_one)))
    (l_one_by_one : K.lookup f_one_by_one = some ⟨oc_one_by_one, od_one_by_one, .func (PySem.W.fnOf "one_by_one" "one_by_one" (defArgs st_one_by_one) (defBody st_one_by_one) (defScope st_one_by_one) .none kV_one_by_one dc_one_by_one pm_one_by_one an_one_by_one cd_one_by_one ct_one_by_one), sl_one_by_one⟩)
    (c_one_by_one : PySem.W.codeIn K cd_one_by_one "one_by_one" = true)
    (k_one_by_one : PySem.W.keepIn K (.ref f_one_by_one) = true)
    (a_by_rests : PySem.W.nsIn K mainGlobals "by_rests" = some (some (.ref f_by_rests)))
    (l_by_rests : K.lookup f_by_rests = some ⟨oc_by_rests, od_by_rests, .func (PySem.W.fnOf "by_rests" "by_rests" (defArgs st_by_rests) (defBody st_by_rests) (defScope st_by_rests) .none kV_by_rests dc_by_rests pm_by_rests an_by_rests cd_by_rests ct_by_rests), sl_by_rests⟩)
    (c_by_rests : PySem.W.codeIn K cd_by_rests "by_rests" = true)
    (k_by_rests : PySem.W.keepIn K (.ref f_by_rests) = true)
    (a_raw_seats : PySem.W.nsIn K mainGlobals "raw_seats" = some (some (.ref f_raw_seats)))
    (l_raw_seats : K.lookup f_raw_seats = some ⟨oc_raw_seats, od_raw_seats, .func (PySem.W.fnOf "raw_seats" "raw_seats" (defArgs st_raw_seats) (defBody st_raw_seats) (defScope st_raw_seats) .none kV_raw_seats dc_raw_seats pm_raw_seats an_raw_seats cd_raw_seats ct_raw_seats), sl_raw_seats⟩)
    (c_raw_seats : PySem.W.codeIn K cd_raw_seats "raw_seats" = true)
    (k_raw_seats : PySem.W.keepIn K (.ref f_raw_seats) = true)
    (a_check_rule : PySem.W.nsIn K mainGlobals "check_rule" = some (some (.ref f_check_rule)))
    (l_check_rule : K.lookup f_check_rule = some ⟨oc_check_rule, od_check_rule, .func (PySem.W.fnOf "check_rule" "check_rule" (defArgs st_check_rule) (defBody st_check_rule) (defScope st_check_rule) .none kV_check_rule dc_check_rule pm_check_rule an_check_rule cd_check_rule ct_check_rule), sl_check_rule⟩)
    (c_check_rule : PySem.W.codeIn K cd_check_rule "check_rule" = true)
    (k_check_rule : PySem.W.keepIn K (.ref f_check_rule) = true)
    (a_seats : PySem.W.nsIn K mainGlobals "seats" = some (some (.ref f_seats)))
    (l_seats : K.lookup f_seats = some ⟨oc_seats, od_seats, .func (PySem.W.fnOf "seats" "seats" (defArgs st_seats) (defBody st_seats) (defScope st_seats) .none kV_seats dc_seats pm_seats an_seats cd_seats ct_seats), sl_seats⟩)
    (c_seats : PySem.W.codeIn K cd_seats "seats" = true)
    (k_seats : PySem.W.keepIn K (.ref f_seats) = true)
    (a_divisors : PySem.W.nsIn K mainGlobals "divisors" = some (some (.ref f_divisors)))
    (l_divisors : K.lookup f_divisors = some ⟨oc_divisors, od_divisors, .func (PySem.W.fnOf "divisors" "divisors" (defArgs st_divisors) (defBody st_divisors) (defScope st_divisors) .none kV_divisors dc_divisors pm_divisors an_divisors cd_divisors ct_divisors), sl_divisors⟩)
    (c_divisors : PySem.W.codeIn K cd_divisors "divisors" = true)
    (k_divisors : PySem.W.keepIn K (.ref f_divisors) = true)
    (a_lost_seat : PySem.W.nsIn K mainGlobals "lost_seat" = some (some (.ref f_lost_seat)))
    (l_lost_seat : K.lookup f_lost_seat = some ⟨oc_lost_seat, od_lost_seat, .func (PySem.W.fnOf "lost_seat" "lost_seat" (defArgs st_lost_seat) (defBody st_lost_seat) (defScope st_lost_seat) .none kV_lost_seat dc_lost_seat pm_lost_seat an_lost_seat cd_lost_seat ct_lost_seat), sl_lost_seat⟩)
    (c_lost_seat : PySem.W.codeIn K cd_lost_seat "lost_seat" = true)
    (k_lost_seat : PySem.W.keepIn K (.ref f_lost_seat) = true)
    (a_law_draw : PySem.W.nsIn K mainGlobals "_law_draw" = some (some (.ref f_law_draw)))
    (l_law_draw : K.lookup f_law_draw = some ⟨oc_law_draw, od_law_draw, .func (PySem.W.fnOf "_law_draw" "_law_draw" (defArgs st__law_draw) (defBody st__law_draw) (defScope st__law_draw) .none kV_law_draw dc_law_draw pm_law_draw an_law_draw cd_law_draw ct_law_draw), sl_law_draw⟩)
    (c_law_draw : PySem.W.codeIn K cd_law_draw "_law_draw" = true)
    (k_law_draw : PySem.W.keepIn K (.ref f_law_draw) = true)
    (a_law_any : PySem.W.nsIn K mainGlobals "_law_any" = some (some (.ref f_law_any)))
    (l_law_any : K.lookup f_law_any = some ⟨oc_law_any, od_law_any, .func (PySem.W.fnOf "_law_any" "_law_any" (defArgs st__law_any) (defBody st__law_any) (defScope st__law_any) .none kV_law_any dc_law_any pm_law_any an_law_any cd_law_any ct_law_any), sl_law_any⟩)
    (c_law_any : PySem.W.codeIn K cd_law_any "_law_any" = true)
    (k_law_any : PySem.W.keepIn K (.ref f_law_any) = true)
    (a_law_like : PySem.W.nsIn K mainGlobals "_law_like" = some (some (.ref f_law_like)))
    (l_law_like : K.lookup f_law_like = some ⟨oc_law_like, od_law_like, .func (PySem.W.fnOf "_law_like" "_law_like" (defArgs st__law_like) (defBody st__law_like) (defScope st__law_like) .none kV_law_like dc_law_like pm_law_like an_law_like cd_law_like ct_law_like), sl_law_like⟩)
    (c_law_like : PySem.W.codeIn K cd_law_like "_law_like" = true)
    (k_law_like : PySem.W.keepIn K (.ref f_law_like) = true)
    (a_law_low : PySem.W.nsIn K mainGlobals "_law_low" = some (some (.ref f_law_low)))
    (l_law_low : K.lookup f_law_low = some ⟨oc_law_low, od_law_low, .func (PySem.W.fnOf "_law_low" "_law_low" (defArgs st__law_low) (defBody st__law_low) (defScope st__law_low) .none kV_law_low dc_law_low pm_law_low an_law_low cd_law_low ct_law_low), sl_law_low⟩)
    (c_law_low : PySem.W.codeIn K cd_law_low "_law_low" = true)
    (k_law_low : PySem.W.keepIn K (.ref f_law_low) = true)
    (a_law_below : PySem.W.nsIn K mainGlobals "_law_below" = some (some (.ref f_law_below)))
    (l_law_below : K.lookup f_law_below = some ⟨oc_law_below, od_law_below, .func (PySem.W.fnOf "_law_below" "_law_below" (defArgs st__law_below) (defBody st__law_below) (defScope st__law_below) .none kV_law_below dc_law_below pm_law_below an_law_below cd_law_below ct_law_below), sl_law_below⟩)
    (c_law_below : PySem.W.codeIn K cd_law_below "_law_below" = true)
    (k_law_below : PySem.W.keepIn K (.ref f_law_below) = true)
    (a_law_votes : PySem.W.nsIn K mainGlobals "_law_votes" = some (some (.ref f_law_votes)))
    (l_law_votes : K.lookup f_law_votes = some ⟨oc_law_votes, od_law_votes, .func (PySem.W.fnOf "_law_votes" "_law_votes" (defArgs st__law_votes) (defBody st__law_votes) (defScope st__law_votes) .none kV_law_votes dc_law_votes pm_law_votes an_law_votes cd_law_votes ct_law_votes), sl_law_votes⟩)
    (c_law_votes : PySem.W.codeIn K cd_law_votes "_law_votes" = true)
    (k_law_votes : PySem.W.keepIn K (.ref f_law_votes) = true)
    (a_law_next : PySem.W.nsIn K mainGlobals "_law_next" = some (some (.ref f_law_next)))
    (l_law_next : K.lookup f_law_next = some ⟨oc_law_next, od_law_next, .func (PySem.W.fnOf "_law_next" "_law_next" (defArgs st__law_next) (defBody st__law_next) (defScope st__law_next) .none kV_law_next dc_law_next pm_law_next an_law_next cd_law_next ct_law_next), sl_law_next⟩)
    (c_law_next : PySem.W.codeIn K cd_law_next "_law_next" = true)
    (k_law_next : PySem.W.keepIn K (.ref f_law_next) = true)
    (a_law_seats : PySem.W.nsIn K mainGlobals "_law_seats" = some (some (.ref f_law_seats)))
    (l_law_seats : K.lookup f_law_seats = some ⟨oc_law_seats, od_law_seats, .func (PySem.W.fnOf "_law_seats" "_law_seats" (defArgs st__law_seats) (defBody st__law_seats) (defScope st__law_seats) .none kV_law_seats dc_law_seats pm_law_seats an_law_seats cd_law_seats ct_law_seats), sl_law_seats⟩)
    (c_law_seats : PySem.W.codeIn K cd_law_seats "_law_seats" = true)
    (k_law_seats : PySem.W.keepIn K (.ref f_law_seats) = true)
    (a_law_ends : PySem.W.nsIn K mainGlobals "_law_ends" = some (some (.ref f_law_ends)))
    (l_law_ends : K.lookup f_law_ends = some ⟨oc_law_ends, od_law_ends, .func (PySem.W.fnOf "_law_ends" "_law_ends" (defArgs st__law_ends) (defBody st__law_ends) (defScope st__law_ends) .none kV_law_ends dc_law_ends pm_law_ends an_law_ends cd_law_ends ct_law_ends), sl_law_ends⟩)
    (c_law_ends : PySem.W.codeIn K cd_law_ends "_law_ends" = true)
    (k_law_ends : PySem.W.keepIn K (.ref f_law_ends) = true)
    (a_law_are_seats_right : PySem.W.nsIn K mainGlobals "_law_are_seats_right" = some (some (.ref f_law_are_seats_right)))
    (l_law_are_seats_right : K.lookup f_law_are_seats_right = some ⟨oc_law_are_seats_right, od_law_are_seats_right, .func (PySem.W.fnOf "_law_are_seats_right" "_law_are_seats_right" (defArgs st__law_are_seats_right) (defBody st__law_are_seats_right) (defScope st__law_are_seats_right) .none kV_law_are_seats_right dc_law_are_seats_right pm_law_are_seats_right an_law_are_seats_right cd_law_are_seats_right ct_law_are_seats_right), sl_law_are_seats_right⟩)
    (c_law_are_seats_right : PySem.W.codeIn K cd_law_are_seats_right "_law_are_seats_right" = true)
    (k_law_are_seats_right : PySem.W.keepIn K (.ref f_law_are_seats_right) = true)
    (a_law_lost : PySem.W.nsIn K mainGlobals "_law_lost" = some (some (.ref f_law_lost)))
    (l_law_lost : K.lookup f_law_lost = some ⟨oc_law_lost, od_law_lost, .func (PySem.W.fnOf "_law_lost" "_law_lost" (defArgs st__law_lost) (defBody st__law_lost) (defScope st__law_lost) .none kV_law_lost dc_law_lost pm_law_lost an_law_lost cd_law_lost ct_law_lost), sl_law_lost⟩)
    (c_law_lost : PySem.W.codeIn K cd_law_lost "_law_lost" = true)
    (k_law_lost : PySem.W.keepIn K (.ref f_law_lost) = true)
    (a_law_hand : PySem.W.nsIn K mainGlobals "_law_hand" = some (some (.ref f_law_hand)))
    (l_law_hand : K.lookup f_law_hand = some ⟨oc_law_hand, od_law_hand, .func (PySem.W.fnOf "_law_hand" "_law_hand" (defArgs st__law_hand) (defBody st__law_hand) (defScope st__law_hand) .none kV_law_hand dc_law_hand pm_law_hand an_law_hand cd_law_hand ct_law_hand), sl_law_hand⟩)
    (c_law_hand : PySem.W.codeIn K cd_law_hand "_law_hand" = true)
    (k_law_hand : PySem.W.keepIn K (.ref f_law_hand) = true)
    (a_law : PySem.W.nsIn K mainGlobals "law" = some (some (.ref f_law)))
    (l_law : K.lookup f_law = some ⟨oc_law, od_law, .func (PySem.W.fnOf "law" "law" (defArgs st_law) (defBody st_law) (defScope st_law) .none kV_law dc_law pm_law an_law cd_law ct_law), sl_law⟩)
    (c_law : PySem.W.codeIn K cd_law "law" = true)
    (k_law : PySem.W.keepIn K (.ref f_law) = true)
    (z_abs : PySem.W.nsIn K mainGlobals "abs" = some none)
    (z_all : PySem.W.nsIn K mainGlobals "all" = some none)
    (z_any : PySem.W.nsIn K mainGlobals "any" = some none)
    (z_bool : PySem.W.nsIn K mainGlobals "bool" = some none)
    (z_enumerate : PySem.W.nsIn K mainGlobals "enumerate" = some none)
    (z_int : PySem.W.nsIn K mainGlobals "int" = some none)
    (z_isinstance : PySem.W.nsIn K mainGlobals "isinstance" = some none)
    (z_len : PySem.W.nsIn K mainGlobals "len" = some none)
    (z_max : PySem.W.nsIn K mainGlobals "max" = some none)
    (z_min : PySem.W.nsIn K mainGlobals "min" = some none)
    (z_range : PySem.W.nsIn K mainGlobals "range" = some none)
    (z_repr : PySem.W.nsIn K mainGlobals "repr" = some none)
    (z_sorted : PySem.W.nsIn K mainGlobals "sorted" = some none)
    (z_str : PySem.W.nsIn K mainGlobals "str" = some none)
    (z_sum : PySem.W.nsIn K mainGlobals "sum" = some none)
    (z_tuple : PySem.W.nsIn K mainGlobals "tuple" = some none)
    (z_zip : PySem.W.nsIn K mainGlobals "zip" = some none)
    (y_MOST_LOOKED : PySem.W.nsIn K mainGlobals "MOST_LOOKED" = some (some (.int 100 t_MOST_LOOKED)))
    (y_MOST_PARTIES : PySem.W.nsIn K mainGlobals "MOST_PARTIES" = some (some (.int 6 t_MOST_PARTIES)))
    (y_MOST_SEATS : PySem.W.nsIn K mainGlobals "MOST_SEATS" = some (some (.int 200 t_MOST_SEATS)))
    (y_RULES : PySem.W.nsIn K mainGlobals "RULES" = some (some (.ref r_RULES)))
    (w_RULES : K.lookup r_RULES = some ⟨.type "tuple", dd_RULES, .seq #[.str "first" q_RULES_0, .str "middle" q_RULES_1, .str "up" q_RULES_2, .str "rest" q_RULES_3] nn_RULES, ss_RULES⟩)
    : codeAny (model P w) callerA (.call (.ref fa) ⟨[.ref a], []⟩) (fun r s' => r = .ok (.ret (.bool true)) ∧ OldK S.heap s'.heap ∧ s'.os = S.os ∧ AllBare s'.gens) S := by
  obtain ⟨fd, hb, hF⟩ := all_mk (P := P) (w := w) inK nsG hfa a_is_integer l_is_integer c_is_integer k_is_integer a_is_within l_is_within c_is_within k_is_within a_is_number l_is_number c_is_number k_is_number a_is_tuple l_is_tuple c_is_tuple k_is_tuple a_is_sized l_is_sized c_is_sized k_is_sized a_divisor_of l_divisor_of c_divisor_of k_divisor_of a_lowest l_lowest c_lowest k_lowest a_is_below l_is_below c_is_below k_is_below a_is_most l_is_most c_is_most k_is_most a_greatest l_greatest c_greatest k_greatest a_least l_least c_least k_least a_check_votes l_check_votes c_check_votes k_check_votes a_is_ahead l_is_ahead c_is_ahead k_is_ahead a_step_of l_step_of c_step_of k_step_of a_one_by_one l_one_by_one c_one_by_one k_one_by_one a_by_rests l_by_rests c_by_rests k_by_rests a_raw_seats l_raw_seats c_raw_seats k_raw_seats a_check_rule l_check_rule c_check_rule k_check_rule a_seats l_seats c_seats k_seats a_divisors l_divisors c_divisors k_divisors a_lost_seat l_lost_seat c_lost_seat k_lost_seat a_law_draw l_law_draw c_law_draw k_law_draw a_law_any l_law_any c_law_any k_law_any a_law_like l_law_like c_law_like k_law_like a_law_low l_law_low c_law_low k_law_low a_law_below l_law_below c_law_below k_law_below a_law_votes l_law_votes c_law_votes k_law_votes a_law_next l_law_next c_law_next k_law_next a_law_seats l_law_seats c_law_seats k_law_seats a_law_ends l_law_ends c_law_ends k_law_ends a_law_are_seats_right l_law_are_seats_right c_law_are_seats_right k_law_are_seats_right a_law_lost l_law_lost c_law_lost k_law_lost a_law_hand l_law_hand c_law_hand k_law_hand a_law l_law c_law k_law z_abs z_all z_any z_bool z_enumerate z_int z_isinstance z_len z_max z_min z_range z_repr z_sorted z_str z_sum z_tuple z_zip y_MOST_LOOKED y_MOST_PARTIES y_MOST_SEATS y_RULES w_RULES
  exact law_top inK nsG nsB boots free gen0 scr intz (small_sz (by omega)) ⟨⟨rfl, by decide, by decide⟩, fun _ => rfl⟩ hF hb fun H hS => ⟨a, ns, rfl, hS, short, fun _ => rfl⟩
end DL

open PySem PySem.W PyProof.Rows
set_option maxHeartbeats 0 in
theorem PySem.Challenge.cw_playershouse_k54_whole_seats_by_four_rul_holds : PySem.Challenge.rw_playershouse_k54_whole_seats_by_four_rul.Holds := by
  w_on; o_law; k_head; (case hw => w_witness2)
  k_fill
  refine Att.attach_callB (n := 63) rfl rfl fun w s₀ s₁ mg mb fa o pm cd doc a vs ns G Y ho hd hcd hmg hobj hints hlen hbits hg => ?_
  have KX := PySem.W.kIn_of Y
  refine' DL.law_go KX G.T.g G.T.b G.T.builtins G.T.nolimit hg hobj hints hlen hmg ?a_is_integer ?l_is_integer ?c_is_integer ?k_is_integer ?a_is_within ?l_is_within ?c_is_within ?k_is_within ?a_is_number ?l_is_number ?c_is_number ?k_is_number ?a_is_tuple ?l_is_tuple ?c_is_tuple ?k_is_tuple ?a_is_sized ?l_is_sized ?c_is_sized ?k_is_sized ?a_divisor_of ?l_divisor_of ?c_divisor_of ?k_divisor_of ?a_lowest ?l_lowest ?c_lowest ?k_lowest ?a_is_below ?l_is_below ?c_is_below ?k_is_below ?a_is_most ?l_is_most ?c_is_most ?k_is_most ?a_greatest ?l_greatest ?c_greatest ?k_greatest ?a_least ?l_least ?c_least ?k_least ?a_check_votes ?l_check_votes ?c_check_votes ?k_check_votes ?a_is_ahead ?l_is_ahead ?c_is_ahead ?k_is_ahead ?a_step_of ?l_step_of ?c_step_of ?k_step_of ?a_one_by_one ?l_one_by_one ?c_one_by_one ?k_one_by_one ?a_by_rests ?l_by_rests ?c_by_rests ?k_by_rests ?a_raw_seats ?l_raw_seats ?c_raw_seats ?k_raw_seats ?a_check_rule ?l_check_rule ?c_check_rule ?k_check_rule ?a_seats ?l_seats ?c_seats ?k_seats ?a_divisors ?l_divisors ?c_divisors ?k_divisors ?a_lost_seat ?l_lost_seat ?c_lost_seat ?k_lost_seat ?a_law_draw ?l_law_draw ?c_law_draw ?k_law_draw ?a_law_any ?l_law_any ?c_law_any ?k_law_any ?a_law_like ?l_law_like ?c_law_like ?k_law_like ?a_law_low ?l_law_low ?c_law_low ?k_law_low ?a_law_below ?l_law_below ?c_law_below ?k_law_below ?a_law_votes ?l_law_votes ?c_law_votes ?k_law_votes ?a_law_next ?l_law_next ?c_law_next ?k_law_next ?a_law_seats ?l_law_seats ?c_law_seats ?k_law_seats ?a_law_ends ?l_law_ends ?c_law_ends ?k_law_ends ?a_law_are_seats_right ?l_law_are_seats_right ?c_law_are_seats_right ?k_law_are_seats_right ?a_law_lost ?l_law_lost ?c_law_lost ?k_law_lost ?a_law_hand ?l_law_hand ?c_law_hand ?k_law_hand ?a_law ?l_law ?c_law ?k_law ?z_abs ?z_all ?z_any ?z_bool ?z_enumerate ?z_int ?z_isinstance ?z_len ?z_max ?z_min ?z_range ?z_repr ?z_sorted ?z_str ?z_sum ?z_tuple ?z_zip ?y_MOST_LOOKED ?y_MOST_PARTIES ?y_MOST_SEATS ?y_RULES ?w_RULES
  (case a_is_integer => k_is)
  (case l_is_integer => k_is)
  (case c_is_integer => k_is)
  (case k_is_integer => k_is)
  (case a_is_within => k_is)
  (case l_is_within => k_is)
  (case c_is_within => k_is)
  (case k_is_within => k_is)
  (case a_is_number => k_is)
  (case l_is_number => k_is)
  (case c_is_number => k_is)
  (case k_is_number => k_is)
  (case a_is_tuple => k_is)
  (case l_is_tuple => k_is)
  (case c_is_tuple => k_is)
  (case k_is_tuple => k_is)
  (case a_is_sized => k_is)
  (case l_is_sized => k_is)
  (case c_is_sized => k_is)
  (case k_is_sized => k_is)
  (case a_divisor_of => k_is)
  (case l_divisor_of => k_is)
  (case c_divisor_of => k_is)
  (case k_divisor_of => k_is)
  (case a_lowest => k_is)
  (case l_lowest => k_is)
  (case c_lowest => k_is)
  (case k_lowest => k_is)
  (case a_is_below => k_is)
  (case l_is_below => k_is)
  (case c_is_below => k_is)
  (case k_is_below => k_is)
  (case a_is_most => k_is)
  (case l_is_most => k_is)
  (case c_is_most => k_is)
  (case k_is_most => k_is)
  (case a_greatest => k_is)
  (case l_greatest => k_is)
  (case c_greatest => k_is)
  (case k_greatest => k_is)
  (case a_least => k_is)
  (case l_least => k_is)
  (case c_least => k_is)
  (case k_least => k_is)
  (case a_check_votes => k_is)
  (case l_check_votes => k_is)
  (case c_check_votes => k_is)
  (case k_check_votes => k_is)
  (case a_is_ahead => k_is)
  (case l_is_ahead => k_is)
  (case c_is_ahead => k_is)
  (case k_is_ahead => k_is)
  (case a_step_of => k_is)
  (case l_step_of => k_is)
  (case c_step_of => k_is)
  (case k_step_of => k_is)
  (case a_one_by_one => k_is)
  (case l_one_by_one => k_is)
  (case c_one_by_one => k_is)
  (case k_one_by_one => k_is)
  (case a_by_rests => k_is)
  (case l_by_rests => k_is)
  (case c_by_rests => k_is)
  (case k_by_rests => k_is)
  (case a_raw_seats => k_is)
  (case l_raw_seats => k_is)
  (case c_raw_seats => k_is)
  (case k_raw_seats => k_is)
  (case a_check_rule => k_is)
  (case l_check_rule => k_is)
  (case c_check_rule => k_is)
  (case k_check_rule => k_is)
  (case a_seats => k_is)
  (case l_seats => k_is)
  (case c_seats => k_is)
  (case k_seats => k_is)
  (case a_divisors => k_is)
  (case l_divisors => k_is)
  (case c_divisors => k_is)
  (case k_divisors => k_is)
  (case a_lost_seat => k_is)
  (case l_lost_seat => k_is)
  (case c_lost_seat => k_is)
  (case k_lost_seat => k_is)
  (case a_law_draw => k_is)
  (case l_law_draw => k_is)
  (case c_law_draw => k_is)
  (case k_law_draw => k_is)
  (case a_law_any => k_is)
  (case l_law_any => k_is)
  (case c_law_any => k_is)
  (case k_law_any => k_is)
  (case a_law_like => k_is)
  (case l_law_like => k_is)
  (case c_law_like => k_is)
  (case k_law_like => k_is)
  (case a_law_low => k_is)
  (case l_law_low => k_is)
  (case c_law_low => k_is)
  (case k_law_low => k_is)
  (case a_law_below => k_is)
  (case l_law_below => k_is)
  (case c_law_below => k_is)
  (case k_law_below => k_is)
  (case a_law_votes => k_is)
  (case l_law_votes => k_is)
  (case c_law_votes => k_is)
  (case k_law_votes => k_is)
  (case a_law_next => k_is)
  (case l_law_next => k_is)
  (case c_law_next => k_is)
  (case k_law_next => k_is)
  (case a_law_seats => k_is)
  (case l_law_seats => k_is)
  (case c_law_seats => k_is)
  (case k_law_seats => k_is)
  (case a_law_ends => k_is)
  (case l_law_ends => k_is)
  (case c_law_ends => k_is)
  (case k_law_ends => k_is)
  (case a_law_are_seats_right => k_is)
  (case l_law_are_seats_right => k_is)
  (case c_law_are_seats_right => k_is)
  (case k_law_are_seats_right => k_is)
  (case a_law_lost => k_is)
  (case l_law_lost => k_is)
  (case c_law_lost => k_is)
  (case k_law_lost => k_is)
  (case a_law_hand => k_is)
  (case l_law_hand => k_is)
  (case c_law_hand => k_is)
  (case k_law_hand => k_is)
  (case a_law => k_is)
  (case l_law => k_is)
  (case c_law => k_is)
  (case k_law => k_is)
  (case z_abs => k_is)
  (case z_all => k_is)
  (case z_any => k_is)
  (case z_bool => k_is)
  (case z_enumerate => k_is)
  (case z_int => k_is)
  (case z_isinstance => k_is)
  (case z_len => k_is)
  (case z_max => k_is)
  (case z_min => k_is)
  (case z_range => k_is)
  (case z_repr => k_is)
  (case z_sorted => k_is)
  (case z_str => k_is)
  (case z_sum => k_is)
  (case z_tuple => k_is)
  (case z_zip => k_is)
  (case y_MOST_LOOKED => k_is)
  (case y_MOST_PARTIES => k_is)
  (case y_MOST_SEATS => k_is)
  (case y_RULES => k_is)
  (case w_RULES => k_is)
