import PyProof.Rows.All
import Wide.All
import OpenK.AllK
import Wide.FinOn
import HandS.ForMost
import HandS.Codes
import HandS.Conv
import HandS.TupAny
import HandS.IsInst
import HandS.Deep
import HandS.Flow
import HandS.SetFor
import HandS.SetKeys
import KE.GoesEnum
import KE.GoesZip
import HandS.TupMul
import KE.KTupSum
import HandS.SortRule
import KE.DataMinMax
import KE.SortData
import HandS.Wide
import HandS.TupLe
import HandS.OwnEq
import HandS.Text
import PyProof.Rows.BitMore
import HandS.Lambda
import HandS.ExcInit
import HandS.ExcField
import HandS.ClsMeth
import HandS.TryMany
import HandS.ExcOwn
import HandS.EndTab
import PySem.Challenge.RW_playershouse_k27_whole_shares_by_all_ord
set_option Elab.async false
set_option linter.all false
set_option maxRecDepth 100000
set_option maxHeartbeats 4000000
/-! DL0: data of any depth over the layer HandS: what a value stands for, and the state's two parts. -/
namespace DL
open PySem PySem.Spec PyProof.Rows L2

/-- data: what a value stands for, without addresses (tk: an object told by its address) -/
inductive D where
  | non
  | bl (b : Bool)
  | int (i : Int)
  | str (x : Str)
  | tup (xs : List D)
  | lst (xs : List D)
  | ins (c : Str) (fs : List (Str × D))
  | tk (a : Addr)
  | ty (n : String)
  | cls (c : Str)

section
variable (K : PySem.W.Frag) (mg : Str → Option Value) (F : Hp)
mutual
inductive Is : V → D → Prop
  | non : Is .non .non
  | bl (b : Bool) : Is (.bl b) (.bl b)
  | int (i : Int) : Is (.int i) (.int i)
  | str (x : Str) : Is (.str x) (.str x)
  | tup {a : Addr} {xs : List V} {ds : List D} : SqT K F a xs → IsA xs ds → Is (.ref a) (.tup ds)
  | lst {a : Addr} {xs : List V} {ds : List D} : F a = some (.lst xs) → IsA xs ds → Is (.ref a) (.lst ds)
  | ins {a C dx : Addr} {c : Str} {fs : List (Str × V)} {gs : List (Str × D)} : mg c = some (.ref C) → F a = some (.ins C dx fs) → IsF fs gs → Is (.ref a) (.ins c gs)
  | tk (a : Addr) : Is (.ref a) (.tk a)
  | ty (n : String) : Is (.ty n) (.ty n)
  | cls {c : Str} {C : Addr} : mg c = some (.ref C) → Is (.ref C) (.cls c)
inductive IsA : List V → List D → Prop
  | nil : IsA [] []
  | cons {v : V} {vs : List V} {d : D} {ds : List D} : Is v d → IsA vs ds → IsA (v :: vs) (d :: ds)
inductive IsF : List (Str × V) → List (Str × D) → Prop
  | nil : IsF [] []
  | cons {x : Str} {v : V} {vs : List (Str × V)} {d : D} {ds : List (Str × D)} : Is v d → IsF vs ds → IsF ((x, v) :: vs) ((x, d) :: ds)
end
end

section
variable {K : PySem.W.Frag} {mg : Str → Option Value} {F F' : Hp}
theorem same_seqT {H H' : Hp} {a : Addr} {xs : List V} (e : Same H H') (h : SqT K H a xs) : SqT K H' a xs := by
  rcases h with (h | ⟨o, h⟩) | h
  · exact .inl (.inl (e _ _ h))
  · exact .inl (.inr ⟨o, e _ _ h⟩)
  · exact .inr h
mutual
theorem Is.mono (e : Same F F') : ∀ {v : V} {d : D}, Is K mg F v d → Is K mg F' v d
  | _, _, .non => .non
  | _, _, .bl b => .bl b
  | _, _, .int i => .int i
  | _, _, .str x => .str x
  | _, _, .tup h t => .tup (same_seqT e h) (IsA.mono e t)
  | _, _, .lst h t => .lst (e _ _ h) (IsA.mono e t)
  | _, _, .ins m h t => .ins m (e _ _ h) (IsF.mono e t)
  | _, _, .tk a => .tk a
  | _, _, .ty a => .ty a
  | _, _, .cls h => .cls h
theorem IsA.mono (e : Same F F') : ∀ {vs : List V} {ds : List D}, IsA K mg F vs ds → IsA K mg F' vs ds
  | _, _, .nil => .nil
  | _, _, .cons h t => .cons (Is.mono e h) (IsA.mono e t)
theorem IsF.mono (e : Same F F') : ∀ {vs : List (Str × V)} {ds : List (Str × D)}, IsF K mg F vs ds → IsF K mg F' vs ds
  | _, _, .nil => .nil
  | _, _, .cons h t => .cons (Is.mono e h) (IsF.mono e t)
end
theorem IsA.length : ∀ {vs : List V} {ds : List D}, IsA K mg F vs ds → vs.length = ds.length
  | _, _, .nil => rfl
  | _, _, .cons _ t => congrArg (· + 1) (IsA.length t)
theorem IsA.get : ∀ {vs : List V} {ds : List D} {i : Nat} {d : D}, IsA K mg F vs ds → ds[i]? = some d → ∃ v, vs[i]? = some v ∧ Is K mg F v d
  | _, _, _, _, .nil, e => by simp at e
  | _, _, 0, _, .cons h _, e => by
    simp at e
    subst e
    exact ⟨_, rfl, h⟩
  | _, _, i + 1, _, .cons _ t, e => by
    obtain ⟨v, h1, h2⟩ := IsA.get (i := i) t (by simpa using e)
    exact ⟨v, by simpa using h1, h2⟩
theorem IsA.append : ∀ {vs ws : List V} {ds es : List D}, IsA K mg F vs ds → IsA K mg F ws es → IsA K mg F (vs ++ ws) (ds ++ es)
  | _, _, _, _, .nil, t => t
  | _, _, _, _, .cons h t, s => .cons h (IsA.append t s)
theorem IsA.take : ∀ {vs : List V} {ds : List D} (n : Nat), IsA K mg F vs ds → IsA K mg F (vs.take n) (ds.take n)
  | _, _, 0, _ => .nil
  | _, _, _ + 1, .nil => .nil
  | _, _, n + 1, .cons h t => .cons h (IsA.take n t)
theorem IsA.drop : ∀ {vs : List V} {ds : List D} (n : Nat), IsA K mg F vs ds → IsA K mg F (vs.drop n) (ds.drop n)
  | _, _, 0, h => h
  | _, _, _ + 1, .nil => .nil
  | _, _, n + 1, .cons _ t => IsA.drop n t
theorem IsA.set : ∀ {vs : List V} {ds : List D} {v : V} {d : D} (i : Nat), Is K mg F v d → IsA K mg F vs ds → IsA K mg F (vs.set i v) (ds.set i d)
  | _, _, _, _, _, _, .nil => .nil
  | _, _, _, _, 0, h, .cons _ t => .cons h t
  | _, _, _, _, i + 1, h, .cons q t => .cons q (IsA.set i h t)
theorem IsA.eraseIdx : ∀ {vs : List V} {ds : List D} (i : Nat), IsA K mg F vs ds → IsA K mg F (vs.eraseIdx i) (ds.eraseIdx i)
  | _, _, _, .nil => .nil
  | _, _, 0, .cons _ t => t
  | _, _, i + 1, .cons q t => .cons q (IsA.eraseIdx i t)
theorem IsA.reverse {vs : List V} {ds : List D} (h : IsA K mg F vs ds) : IsA K mg F vs.reverse ds.reverse := by
  induction h using IsA.rec (motive_1 := fun _ _ _ => True) (motive_3 := fun _ _ _ => True) with
  | nil => exact .nil
  | cons h t _ ih =>
    rw [List.reverse_cons, List.reverse_cons]
    exact IsA.append ih (.cons h .nil)
  | _ => trivial
theorem IsF.lookup : ∀ {vs : List (Str × V)} {ds : List (Str × D)} {f : Str} {d : D}, IsF K mg F vs ds → ds.lookup f = some d → ∃ v, vs.lookup f = some v ∧ Is K mg F v d
  | _, _, _, _, .nil, e => by simp at e
  | _, _, f, _, .cons (x := x) h t, e => by
    rw [List.lookup_cons] at e ⊢
    cases hx : f == x with
    | true =>
      rw [hx] at e
      cases e
      exact ⟨_, rfl, h⟩
    | false =>
      rw [hx] at e
      exact IsF.lookup t e
end

/-! ### flat data by what stands -/
section
variable {K : PySem.W.Frag} {mg : Str → Option Value} {F : Hp} {v : V}
theorem Is.int_inv {i : Int} (h : Is K mg F v (.int i)) : v = .int i := by cases h; rfl
theorem Is.bl_inv {b : Bool} (h : Is K mg F v (.bl b)) : v = .bl b := by cases h; rfl
theorem Is.non_inv (h : Is K mg F v .non) : v = .non := by cases h; rfl
theorem Is.str_inv {x : Str} (h : Is K mg F v (.str x)) : v = .str x := by cases h; rfl
theorem Is.tk_inv {a : Addr} (h : Is K mg F v (.tk a)) : v = .ref a := by cases h; rfl
theorem Is.ty_inv {a : String} (h : Is K mg F v (.ty a)) : v = .ty a := by cases h; rfl
theorem Is.cls_inv {c : Str} (h : Is K mg F v (.cls c)) : ∃ C, v = .ref C ∧ mg c = some (.ref C) := by
  cases h with
  | cls h => exact ⟨_, rfl, h⟩
theorem Is.tup_inv {ds : List D} (h : Is K mg F v (.tup ds)) : ∃ a xs, v = .ref a ∧ SqT K F a xs ∧ IsA K mg F xs ds := by
  cases h with
  | tup h t => exact ⟨_, _, rfl, h, t⟩
theorem Is.lst_inv {ds : List D} (h : Is K mg F v (.lst ds)) : ∃ a xs, v = .ref a ∧ F a = some (.lst xs) ∧ IsA K mg F xs ds := by
  cases h with
  | lst h t => exact ⟨_, _, rfl, h, t⟩
theorem Is.ins_inv {c : Str} {gs : List (Str × D)} (h : Is K mg F v (.ins c gs)) : ∃ a C dx fs, v = .ref a ∧ mg c = some (.ref C) ∧ F a = some (.ins C dx fs) ∧ IsF K mg F fs gs := by
  cases h with
  | ins m h t => exact ⟨_, _, _, _, rfl, m, h, t⟩
theorem IsA.nil_inv {vs : List V} (h : IsA K mg F vs []) : vs = [] := by cases h; rfl
theorem IsA.cons_inv {vs : List V} {d : D} {ds : List D} (h : IsA K mg F vs (d :: ds)) : ∃ v r, vs = v :: r ∧ Is K mg F v d ∧ IsA K mg F r ds := by
  cases h with
  | cons h t => exact ⟨_, _, rfl, h, t⟩
theorem IsA.one_inv {vs : List V} {d : D} (h : IsA K mg F vs [d]) : ∃ v, vs = [v] ∧ Is K mg F v d := by
  obtain ⟨v, r, rfl, h1, t⟩ := h.cons_inv
  cases t.nil_inv
  exact ⟨v, rfl, h1⟩
theorem IsA.two_inv {vs : List V} {d e : D} (h : IsA K mg F vs [d, e]) : ∃ v w, vs = [v, w] ∧ Is K mg F v d ∧ Is K mg F w e := by
  obtain ⟨v, r, rfl, h1, t⟩ := h.cons_inv
  obtain ⟨w, rfl, h2⟩ := t.one_inv
  exact ⟨v, w, rfl, h1, h2⟩
theorem IsA.ints : ∀ {ns : List Int} {vs : List V}, IsA K mg F vs (ns.map D.int) → vs = ns.map V.int
  | [], _, h => h.nil_inv
  | n :: ns, _, h => by
    obtain ⟨v, r, rfl, h1, t⟩ := IsA.cons_inv (h : IsA K mg F _ (D.int n :: ns.map D.int))
    rw [h1.int_inv, IsA.ints t]
    rfl
theorem IsA.bls : ∀ {ns : List Bool} {vs : List V}, IsA K mg F vs (ns.map D.bl) → vs = ns.map V.bl
  | [], _, h => h.nil_inv
  | n :: ns, _, h => by
    obtain ⟨v, r, rfl, h1, t⟩ := IsA.cons_inv (h : IsA K mg F _ (D.bl n :: ns.map D.bl))
    rw [h1.bl_inv, IsA.bls t]
    rfl
theorem IsA.strs : ∀ {ns : List Str} {vs : List V}, IsA K mg F vs (ns.map D.str) → vs = ns.map V.str
  | [], _, h => h.nil_inv
  | n :: ns, _, h => by
    obtain ⟨v, r, rfl, h1, t⟩ := IsA.cons_inv (h : IsA K mg F _ (D.str n :: ns.map D.str))
    rw [h1.str_inv, IsA.strs t]
    rfl
theorem isA_ints : ∀ {ns : List Int}, IsA K mg F (ns.map V.int) (ns.map D.int)
  | [] => .nil
  | n :: ns => .cons (.int n) isA_ints
end

/-! ### data of the library's own kind (no instances, no addresses) -/
mutual
def toPy : D → Option PyData
  | .non => some .none
  | .bl b => some (.bool b)
  | .int i => some (.int i)
  | .str x => some (.str x)
  | .tup xs => (toPyA xs).map .tuple
  | .lst xs => (toPyA xs).map .list
  | .ins _ _ => none
  | .tk _ => none
  | .ty _ => none
  | .cls _ => none
def toPyA : List D → Option (List PyData)
  | [] => some []
  | d :: ds => match toPy d, toPyA ds with
    | some p, some ps => some (p :: ps)
    | _, _ => none
end
section
variable {K : PySem.W.Frag} {mg : Str → Option Value} {F : Hp}
mutual
theorem Is.toDp : ∀ (d : D) (v : V) (p : PyData), Is K mg F v d → toPy d = some p → Dp K F v p
  | .non, _, _, h, e => by
    cases h
    cases e
    exact .non
  | .bl b, _, _, h, e => by
    cases h
    cases e
    exact .bl b
  | .int i, _, _, h, e => by
    cases h
    cases e
    exact .int i
  | .str x, _, _, h, e => by
    cases h
    cases e
    exact .str x
  | .tup ds, _, _, h, e => by
    obtain ⟨a, xs, rfl, hs, ha⟩ := h.tup_inv
    simp only [toPy, Option.map_eq_some_iff] at e
    obtain ⟨ps, e1, rfl⟩ := e
    exact .tup hs (IsA.toDp ds xs ps ha e1)
  | .lst ds, _, _, h, e => by
    obtain ⟨a, xs, rfl, hs, ha⟩ := h.lst_inv
    simp only [toPy, Option.map_eq_some_iff] at e
    obtain ⟨ps, e1, rfl⟩ := e
    exact .lst (SqL.of hs) (IsA.toDp ds xs ps ha e1)
  | .ins _ _, _, _, _, e => by simp [toPy] at e
  | .tk _, _, _, _, e => by simp [toPy] at e
  | .ty _, _, _, _, e => by simp [toPy] at e
  | .cls _, _, _, _, e => by simp [toPy] at e
theorem IsA.toDp : ∀ (ds : List D) (vs : List V) (ps : List PyData), IsA K mg F vs ds → toPyA ds = some ps → DpAll K F vs ps
  | [], _, _, h, e => by
    cases h.nil_inv
    simp [toPyA] at e
    subst e
    exact .nil
  | d :: ds, _, _, h, e => by
    obtain ⟨v, r, rfl, h1, t⟩ := h.cons_inv
    unfold toPyA at e
    split at e
    · rename_i p ps e1 e2
      cases e
      exact .cons (Is.toDp d v p h1 e1) (IsA.toDp ds r ps t e2)
    · cases e
end
mutual
theorem dp_mono {H H' : Hp} (e : Same H H') : ∀ {v : V} {p : PyData}, Dp K H v p → Dp K H' v p
  | _, _, .non => .non
  | _, _, .bl b => .bl b
  | _, _, .int i => .int i
  | _, _, .str x => .str x
  | _, _, .lst h t => .lst (e.seq h) (dpA_mono e t)
  | _, _, .tup h t => .tup (same_seqT e h) (dpA_mono e t)
theorem dpA_mono {H H' : Hp} (e : Same H H') : ∀ {vs : List V} {ps : List PyData}, DpAll K H vs ps → DpAll K H' vs ps
  | _, _, .nil => .nil
  | _, _, .cons h t => .cons (dp_mono e h) (dpA_mono e t)
end
end

/-! ### the state: F what never changes, pr what others own, J's own things -/
/-- a thing with a state of its own (the law's source of numbers): where it lies, what holds of it, its object's address -/
structure GJ where
  mt : Addr → Prop
  inv : Hp → Hp → Prop
  at_ : ∀ F H b, inv F H → mt b → H b ≠ none
  stay : ∀ F H F' H', inv F H → Same F F' → (∀ b, mt b → H' b = H b) → (∀ b φ, H b = some (.ext φ) → H' b = some (.ext φ)) → inv F' H'
/-- nothing of that kind -/
def J0 : GJ := ⟨fun _ => False, fun _ _ => True, fun _ _ _ _ h => h.elim, fun _ _ _ _ _ _ _ _ => trivial⟩

/-- no table of code objects (these grow where a lambda is made) -/
def NT (o : HO) : Prop := ∀ ps, o ≠ .tbl ps
theorem nt_lst {vs : List V} : NT (.lst vs) := fun _ z => by cases z
theorem nt_tup {vs : List V} : NT (.tup vs) := fun _ z => by cases z
theorem nt_dK {vs : List (Key × V)} : NT (.dK vs) := fun _ z => by cases z
theorem nt_dT {vs : List (List Key × V)} : NT (.dT vs) := fun _ z => by cases z
structure St8 (J : GJ) (pr F H : Hp) : Prop where
  sub : Same F H
  prk : ∀ b o, pr b = some o → H b = some o ∧ F b = none
  inv : J.inv F H
  mtF : ∀ b, J.mt b → F b = none ∧ pr b = none
  nt : ∀ b o, F b = some o ∨ pr b = some o → NT o
/-- from one state to a later one: what stood stands (but J's), nothing of it was laid down as unchanging -/
structure Stp (J : GJ) (pr F H F' H' : Hp) : Prop where
  st : St8 J pr F' H'
  ff : Same F F'
  hh : ∀ b o, ¬ J.mt b → NT o → H b = some o → H' b = some o
  nf : ∀ b o, NT o → H b = some o → F b = none → F' b = none
section
variable {J : GJ} {pr F H F' H' F2 H2 : Hp}
theorem Stp.refl (s : St8 J pr F H) : Stp J pr F H F H := ⟨s, Same.refl _, fun _ _ _ _ h => h, fun _ _ _ _ h => h⟩
theorem Stp.trans (a : Stp J pr F H F' H') (ha : St8 J pr F H) (b : Stp J pr F' H' F2 H2) : Stp J pr F H F2 H2 :=
  ⟨b.st, a.ff.trans b.ff, fun c o m t h => b.hh c o m t (a.hh c o m t h), fun c o t h n => by
    by_cases m : J.mt c
    · exact (b.st.mtF c m).1
    · exact b.nf c o t (a.hh c o m t h) (a.nf c o t h n)⟩
/-- a new object is laid down, never to change -/
theorem St8.laid {p : Addr} {o : HO} (s : St8 J pr F H) (n : H p = none) (ho : NT o) : Stp J pr F H (upd F p o) (upd H p o) := by
  have nF : F p = none := s.sub.free n
  refine ⟨⟨fun b x h => ?_, fun b x h => ?_, J.stay F H _ _ s.inv (fun b x h => (upd_ne (ne_of_none h nF)).trans h) (fun b m => upd_ne ?_) (fun b φ h => (upd_ne (ne_of_none h n)).trans h), fun b m => ?_, fun b x h => ?_⟩, fun b x h => ?_, fun b x _ _ h => ?_, fun b x _ h f => ?_⟩
  · by_cases e : b = p
    · subst e
      rw [upd_same] at h ⊢
      exact h
    · rw [upd_ne e] at h ⊢
      exact s.sub b x h
  · obtain ⟨h1, h2⟩ := s.prk b x h
    have e : b ≠ p := ne_of_none h1 n
    exact ⟨by rw [upd_ne e]; exact h1, by rw [upd_ne e]; exact h2⟩
  · intro e
    subst e
    exact J.at_ F H b s.inv m n
  · have e : b ≠ p := fun e => by
      subst e
      exact J.at_ F H b s.inv m n
    exact ⟨by rw [upd_ne e]; exact (s.mtF b m).1, (s.mtF b m).2⟩
  · by_cases e : b = p
    · subst e
      rcases h with h | h
      · rw [upd_same] at h
        cases h
        exact ho
      · exact s.nt b x (.inr h)
    · rw [upd_ne e] at h
      exact s.nt b x h
  · rw [upd_ne (ne_of_none h nF)]
    exact h
  · rw [upd_ne (ne_of_none h n)]
    exact h
  · rw [upd_ne (ne_of_none h n)]
    exact f
/-- a new object is made, that somebody owns -/
theorem St8.made {p : Addr} {o : HO} (s : St8 J pr F H) (n : H p = none) : Stp J pr F H F (upd H p o) := by
  refine ⟨⟨fun b x h => ?_, fun b x h => ?_, J.stay F H _ _ s.inv (Same.refl _) (fun b m => upd_ne ?_) (fun b φ h => (upd_ne (ne_of_none h n)).trans h), s.mtF, s.nt⟩, Same.refl _, fun b x _ _ h => ?_, fun b x _ h f => f⟩
  · have h' := s.sub b x h
    rw [upd_ne (ne_of_none h' n)]
    exact h'
  · obtain ⟨h1, h2⟩ := s.prk b x h
    exact ⟨by rw [upd_ne (ne_of_none h1 n)]; exact h1, h2⟩
  · intro e
    subst e
    exact J.at_ F H b s.inv m n
  · rw [upd_ne (ne_of_none h n)]
    exact h
/-- an owned object is written -/
theorem St8.write {p : Addr} {o : HO} (s : St8 J pr F H) (f : F p = none) (q : pr p = none) (m : ¬ J.mt p) (hx : ∀ φ, H p ≠ some (.ext φ)) : St8 J pr F (upd H p o) := by
  refine ⟨fun b x h => ?_, fun b x h => ?_, J.stay F H _ _ s.inv (Same.refl _) (fun b m' => upd_ne ?_) (fun b φ h => (upd_ne (fun z => by subst z; exact hx φ h)).trans h), s.mtF, s.nt⟩
  · rw [upd_ne (ne_of_none h f)]
    exact s.sub b x h
  · rw [upd_ne (ne_of_none h q)]
    exact s.prk b x h
  · intro e
    subst e
    exact m m'
/-- an owned object is laid down, never to change from now on -/
theorem St8.freeze {p : Addr} {o : HO} (s : St8 J pr F H) (h : H p = some o) (f : F p = none) (q : pr p = none) (m : ¬ J.mt p) (ho : NT o) : St8 J pr (upd F p o) H := by
  refine ⟨fun b x e => ?_, fun b x e => ?_, J.stay F H _ _ s.inv (fun b x e => (upd_ne (ne_of_none e f)).trans e) (fun _ _ => rfl) (fun _ _ h => h), fun b m' => ?_, fun b x e => ?_⟩
  · by_cases eb : b = p
    · subst eb
      rw [upd_same] at e
      cases e
      exact h
    · rw [upd_ne eb] at e
      exact s.sub b x e
  · rw [upd_ne (ne_of_none e q)]
    exact s.prk b x e
  · have e : b ≠ p := fun e => by
      subst e
      exact m m'
    rw [upd_ne e]
    exact s.mtF b m'
  · by_cases eb : b = p
    · subst eb
      rcases e with e | e
      · rw [upd_same] at e
        cases e
        exact ho
      · exact s.nt b x (.inr e)
    · rw [upd_ne eb] at e
      exact s.nt b x e
theorem same_upd' {F : Hp} {p : Addr} {o : HO} (f : F p = none) : Same F (upd F p o) := fun b x h => by
  rw [upd_ne (ne_of_none h f)]
  exact h
end
end DL

/-! DL1: operations by data. -/
namespace DL
open PySem PySem.Spec PyProof.Rows L2

abbrev Prim := List D → (D → Prop) → Prop

section
variable (K : PySem.W.Frag) (mg : Str → Option Value) (F H : Hp)
/-- data, or a list as it stands at the moment -/
def IsB (v : V) (d : D) : Prop := Is K mg F v d ∨ ∃ (p : Addr) (vs : List V) (xs : List D), v = .ref p ∧ d = .lst xs ∧ H p = some (.lst vs) ∧ IsA K mg F vs xs
inductive IsBA : List V → List D → Prop
  | nil : IsBA [] []
  | cons {v : V} {vs : List V} {d : D} {ds : List D} : IsB K mg F H v d → IsBA vs ds → IsBA (v :: vs) (d :: ds)
end
section
variable {K : PySem.W.Frag} {mg : Str → Option Value} {F H : Hp} {v : V} {vs : List V}
theorem IsA.b : ∀ {vs : List V} {ds : List D}, IsA K mg F vs ds → IsBA K mg F H vs ds
  | _, _, .nil => .nil
  | _, _, .cons h t => .cons (.inl h) (IsA.b t)
theorem IsBA.nil_inv (h : IsBA K mg F H vs []) : vs = [] := by cases h; rfl
theorem IsBA.cons_inv {d : D} {ds : List D} (h : IsBA K mg F H vs (d :: ds)) : ∃ v r, vs = v :: r ∧ IsB K mg F H v d ∧ IsBA K mg F H r ds := by
  cases h with
  | cons h t => exact ⟨_, _, rfl, h, t⟩
theorem IsBA.one_inv {d : D} (h : IsBA K mg F H vs [d]) : ∃ v, vs = [v] ∧ IsB K mg F H v d := by
  obtain ⟨v, r, rfl, h1, t⟩ := h.cons_inv
  cases t.nil_inv
  exact ⟨v, rfl, h1⟩
theorem IsBA.two_inv {d e : D} (h : IsBA K mg F H vs [d, e]) : ∃ v w, vs = [v, w] ∧ IsB K mg F H v d ∧ IsB K mg F H w e := by
  obtain ⟨v, r, rfl, h1, t⟩ := h.cons_inv
  obtain ⟨w, rfl, h2⟩ := t.one_inv
  exact ⟨v, w, rfl, h1, h2⟩
theorem IsB.int_inv {i : Int} (h : IsB K mg F H v (.int i)) : v = .int i := by
  rcases h with h | ⟨_, _, _, _, e, _⟩
  · exact h.int_inv
  · cases e
theorem IsB.bl_inv {i : Bool} (h : IsB K mg F H v (.bl i)) : v = .bl i := by
  rcases h with h | ⟨_, _, _, _, e, _⟩
  · exact h.bl_inv
  · cases e
theorem IsB.non_inv (h : IsB K mg F H v .non) : v = .non := by
  rcases h with h | ⟨_, _, _, _, e, _⟩
  · exact h.non_inv
  · cases e
theorem IsB.str_inv {x : Str} (h : IsB K mg F H v (.str x)) : v = .str x := by
  rcases h with h | ⟨_, _, _, _, e, _⟩
  · exact h.str_inv
  · cases e
theorem IsB.ty_inv {n : String} (h : IsB K mg F H v (.ty n)) : v = .ty n := by
  rcases h with h | ⟨_, _, _, _, e, _⟩
  · exact h.ty_inv
  · cases e
theorem IsB.tup_inv {ds : List D} (h : IsB K mg F H v (.tup ds)) : ∃ a xs, v = .ref a ∧ SqT K F a xs ∧ IsA K mg F xs ds := by
  rcases h with h | ⟨_, _, _, _, e, _⟩
  · exact h.tup_inv
  · cases e
theorem IsB.lst_inv {ds : List D} (s : Same F H) (h : IsB K mg F H v (.lst ds)) : ∃ a xs, v = .ref a ∧ H a = some (.lst xs) ∧ IsA K mg F xs ds := by
  rcases h with h | ⟨p, vs, xs, e1, e2, e3, e4⟩
  · obtain ⟨a, xs, rfl, h1, h2⟩ := h.lst_inv
    exact ⟨a, xs, rfl, s _ _ h1, h2⟩
  · cases e2
    exact ⟨p, vs, e1, e3, e4⟩
theorem IsB.toDp {d : D} {p : PyData} (s : Same F H) (h : IsB K mg F H v d) (e : toPy d = some p) : Dp K H v p := by
  rcases h with h | ⟨a, vs, xs, rfl, rfl, e3, e4⟩
  · exact dp_mono s (Is.toDp d v p h e)
  · simp only [toPy, Option.map_eq_some_iff] at e
    obtain ⟨ps, e1, rfl⟩ := e
    exact .lst (SqL.of e3) (dpA_mono s (IsA.toDp xs vs ps e4 e1))
end

/-- an operation on values that keeps the promise O of the data -/
def rP (K : PySem.W.Frag) (mg : Str → Option Value) (J : GJ) (O : Prim) : List V → Hp → VK → Prop := fun vs H Q =>
  ∃ (pr F : Hp) (ds : List D) (q : D → Prop), St8 J pr F H ∧ IsBA K mg F H vs ds ∧ O ds q ∧ ∀ d z F' H', Stp J pr F H F' H' → Is K mg F' z d → q d → Q z H'
def OpD (X : Cx) (J : GJ) (f : Value → Value → Sem Value) (O : Prim) : Prop := OpR X f fun x y H Q => rP X.K X.mg J O [x, y] H Q
def UnD (X : Cx) (J : GJ) (f : Value → Sem Value) (O : Prim) : Prop := UnR X f fun x H Q => rP X.K X.mg J O [x] H Q
def CallD (X : Cx) (J : GJ) (f : Value) (O : Prim) : Prop := CallR X f (rP X.K X.mg J O)
def IxD (X : Cx) (J : GJ) (O : Prim) : Prop := IxR X fun x y H Q => rP X.K X.mg J O [x, y] H Q
def MtD (X : Cx) (J : GJ) (id : String) (O : Prim) : Prop := MtR X id fun x xs H Q => rP X.K X.mg J O (x :: xs) H Q
theorem OpR.imp {X : Cx} {f : Value → Value → Sem Value} {r r' : R2} (h : OpR X f r) (i : ∀ x y H Q, r' x y H Q → r x y H Q) : OpR X f r' :=
  fun pins s σ H x y v u Q I rx ry q => h pins s σ H x y v u Q I rx ry (i _ _ _ _ q)
theorem UnR.imp {X : Cx} {f : Value → Sem Value} {r r' : V → Hp → VK → Prop} (h : UnR X f r) (i : ∀ x H Q, r' x H Q → r x H Q) : UnR X f r' :=
  fun pins s σ H x v Q I rx q => h pins s σ H x v Q I rx (i _ _ _ q)
theorem CallR.imp {X : Cx} {f : Value} {r r' : List V → Hp → VK → Prop} (h : CallR X f r) (i : ∀ x H Q, r' x H Q → r x H Q) : CallR X f r' :=
  fun pins s σ H x v Q I rx q => h pins s σ H x v Q I rx (i _ _ _ q)
theorem IxR.imp {X : Cx} {r r' : R2} (h : IxR X r) (i : ∀ x y H Q, r' x y H Q → r x y H Q) : IxR X r' :=
  fun a b pins s σ H x y v u Q I rx ry q hs => h a b pins s σ H x y v u Q I rx ry (i _ _ _ _ q) hs

section
variable {K : PySem.W.Frag} {mg : Str → Option Value} {J : GJ} {pr F H : Hp} {q : D → Prop} {Q : VK}
/-- the answer is flat: nothing is made -/
theorem ans (st : St8 J pr F H) (k : ∀ d z F' H', Stp J pr F H F' H' → Is K mg F' z d → q d → Q z H') {d : D} {z : V} (h : Is K mg F z d) (hq : q d) : Q z H := k d z F H (.refl st) h hq
/-- a new object -/
theorem ansNew (st : St8 J pr F H) (k : ∀ d z F' H', Stp J pr F H F' H' → Is K mg F' z d → q d → Q z H') {d : D} {p : Addr} {o : HO} (n : H p = none) (h : ∀ F', Same F F' → F' p = some o → Is K mg F' (.ref p) d) (hq : q d) (ho : NT o := by first | exact nt_lst | exact nt_tup) : Q (.ref p) (upd H p o) :=
  k d _ _ _ (st.laid n ho) (h _ (same_upd' (st.sub.free n)) upd_same) hq
theorem is_lst {F : Hp} {p : Addr} {vs : List V} {xs : List D} (h : IsA K mg F vs xs) : ∀ F', Same F F' → F' p = some (.lst vs) → Is K mg F' (.ref p) (.lst xs) := fun F' s e => .lst e (h.mono s)
theorem is_tup {F : Hp} {p : Addr} {vs : List V} {xs : List D} (h : IsA K mg F vs xs) : ∀ F', Same F F' → F' p = some (.tup vs) → Is K mg F' (.ref p) (.tup xs) := fun F' s e => .tup (SqT.of e) (h.mono s)
end

/-! ### arithmetic -/
@[simp] def oAdd : Prim
  | [.int i, .int j], q => q (.int (i + j))
  | [.int i, .bl k], q => q (.int (i + b2i k))
  | [.tup xs, .tup ys], q => xs.length + ys.length ≤ sizeLine ∧ q (.tup (xs ++ ys))
  | [.lst xs, .lst ys], q => xs.length + ys.length ≤ sizeLine ∧ q (.lst (xs ++ ys))
  | [.str x, .str y], q => x.length + y.length ≤ sizeLine ∧ q (.str (x ++ y))
  | _, _ => False
@[simp] def oSub : Prim
  | [.int i, .int j], q => q (.int (i - j))
  | _, _ => False
@[simp] def oMul : Prim
  | [.int i, .int j], q => CMul i j ∧ q (.int (i * j))
  | [.lst xs, .int k], q => -(2 ^ 63) ≤ k ∧ k < 2 ^ 63 ∧ xs.length * k.toNat ≤ sizeLine ∧ q (.lst (List.replicate k.toNat xs).flatten)
  | _, _ => False
@[simp] def oDiv : Prim
  | [.int i, .int j], q => CDiv i j ∧ q (.int (i / j))
  | _, _ => False
@[simp] def oMod : Prim
  | [.int i, .int j], q => 0 < j ∧ q (.int (i % j))
  | _, _ => False
@[simp] def oPow : Prim
  | [.int i, .int j], q => CPow i j ∧ q (.int (i ^ j.toNat))
  | _, _ => False
@[simp] def oNeg : Prim
  | [.int i], q => q (.int (-i))
  | _, _ => False
theorem isA_rep {K : PySem.W.Frag} {mg : Str → Option Value} {F : Hp} {vs : List V} {xs : List D} (h : IsA K mg F vs xs) : ∀ n : Nat, IsA K mg F (List.replicate n vs).flatten (List.replicate n xs).flatten
  | 0 => .nil
  | n + 1 => by
    rw [List.replicate_succ, List.replicate_succ, List.flatten_cons, List.flatten_cons]
    exact h.append (isA_rep h n)
section
variable {X : Cx} {J : GJ}
theorem od_add : OpD X J (binaryOp .Add) oAdd := by
  intro pins s σ H x y v u Q I rx ry ⟨pr, F, ds, q, st, ia, ho, k⟩
  unfold oAdd at ho
  split at ho
  · obtain ⟨a, b, e, ha, hb⟩ := ia.two_inv
    cases e
    cases ha.int_inv
    cases hb.int_inv
    exact op_add pins s σ H _ _ v u Q I rx ry ⟨_, _, rfl, rfl, ans st k (.int _) ho⟩
  · obtain ⟨a, b, e, ha, hb⟩ := ia.two_inv
    cases e
    cases ha.int_inv
    cases hb.bl_inv
    exact op_add_ib pins s σ H _ _ v u Q I rx ry ⟨_, _, rfl, rfl, ans st k (.int _) ho⟩
  · obtain ⟨a, b, e, ha, hb⟩ := ia.two_inv
    cases e
    obtain ⟨p1, vs, rfl, h1, a1⟩ := ha.tup_inv
    obtain ⟨p2, ws, rfl, h2, a2⟩ := hb.tup_inv
    refine op_catA pins s σ H _ _ v u Q I rx ry ⟨_, _, vs, ws, rfl, rfl, same_seqT st.sub h1, same_seqT st.sub h2, ?_, ?_⟩
    · rw [a1.length, a2.length]
      exact ho.1
    · rename_i q0 xs ys
      refine ⟨fun e => ?_, fun _ e => ?_, fun _ _ p hp => ansNew st k hp (is_tup (a1.append a2)) ho.2⟩
      · subst e
        have e0 : xs = [] := List.length_eq_zero_iff.mp a1.length.symm
        subst e0
        exact ans st k (.tup h2 a2) ho.2
      · subst e
        have e0 : ys = [] := List.length_eq_zero_iff.mp a2.length.symm
        subst e0
        have := ho.2
        rw [List.append_nil] at this
        exact ans st k (.tup h1 a1) this
  · obtain ⟨a, b, e, ha, hb⟩ := ia.two_inv
    cases e
    obtain ⟨p1, vs, rfl, h1, a1⟩ := ha.lst_inv st.sub
    obtain ⟨p2, ws, rfl, h2, a2⟩ := hb.lst_inv st.sub
    refine op_cat pins s σ H _ _ v u Q I rx ry ⟨_, _, vs, ws, rfl, rfl, h1, h2, ?_, fun p hp => ansNew st k hp (is_lst (a1.append a2)) ho.2⟩
    rw [a1.length, a2.length]
    exact ho.1
  · obtain ⟨a, b, e, ha, hb⟩ := ia.two_inv
    cases e
    cases ha.str_inv
    cases hb.str_inv
    exact op_add_str pins s σ H _ _ v u Q I rx ry ⟨_, _, rfl, rfl, ho.1, ans st k (.str _) ho.2⟩
  · exact ho.elim
theorem od_sub : OpD X J (binaryOp .Sub) oSub := by
  intro pins s σ H x y v u Q I rx ry ⟨pr, F, ds, q, st, ia, ho, k⟩
  unfold oSub at ho
  split at ho
  · obtain ⟨a, b, e, ha, hb⟩ := ia.two_inv
    cases e
    cases ha.int_inv
    cases hb.int_inv
    exact op_sub pins s σ H _ _ v u Q I rx ry ⟨_, _, rfl, rfl, ans st k (.int _) ho⟩
  · exact ho.elim
theorem od_mul : OpD X J (binaryOp .Mult) oMul := by
  intro pins s σ H x y v u Q I rx ry ⟨pr, F, ds, q, st, ia, ho, k⟩
  unfold oMul at ho
  split at ho
  · obtain ⟨a, b, e, ha, hb⟩ := ia.two_inv
    cases e
    cases ha.int_inv
    cases hb.int_inv
    exact op_mul pins s σ H _ _ v u Q I rx ry ⟨_, _, rfl, rfl, ho.1, ans st k (.int _) ho.2⟩
  · obtain ⟨a, b, e, ha, hb⟩ := ia.two_inv
    cases e
    cases hb.int_inv
    obtain ⟨p1, vs, rfl, h1, a1⟩ := ha.lst_inv st.sub
    exact op_rep pins s σ H _ _ v u Q I rx ry ⟨_, _, vs, rfl, rfl, h1, ho.1, ho.2.1, by rw [a1.length]; exact ho.2.2.1, fun p hp => ansNew st k hp (is_lst (isA_rep a1 _)) ho.2.2.2⟩
  · exact ho.elim
theorem od_div : OpD X J (binaryOp .FloorDiv) oDiv := by
  intro pins s σ H x y v u Q I rx ry ⟨pr, F, ds, q, st, ia, ho, k⟩
  unfold oDiv at ho
  split at ho
  · obtain ⟨a, b, e, ha, hb⟩ := ia.two_inv
    cases e
    cases ha.int_inv
    cases hb.int_inv
    exact op_fdiv pins s σ H _ _ v u Q I rx ry ⟨_, _, rfl, rfl, ho.1, ans st k (.int _) ho.2⟩
  · exact ho.elim
theorem od_mod : OpD X J (binaryOp .Mod) oMod := by
  intro pins s σ H x y v u Q I rx ry ⟨pr, F, ds, q, st, ia, ho, k⟩
  unfold oMod at ho
  split at ho
  · obtain ⟨a, b, e, ha, hb⟩ := ia.two_inv
    cases e
    cases ha.int_inv
    cases hb.int_inv
    exact op_mod pins s σ H _ _ v u Q I rx ry ⟨_, _, rfl, rfl, ho.1, ans st k (.int _) ho.2⟩
  · exact ho.elim
theorem od_pow : OpD X J (binaryOp .Pow) oPow := by
  intro pins s σ H x y v u Q I rx ry ⟨pr, F, ds, q, st, ia, ho, k⟩
  unfold oPow at ho
  split at ho
  · obtain ⟨a, b, e, ha, hb⟩ := ia.two_inv
    cases e
    cases ha.int_inv
    cases hb.int_inv
    exact op_pow pins s σ H _ _ v u Q I rx ry ⟨_, _, rfl, rfl, ho.1, ans st k (.int _) ho.2⟩
  · exact ho.elim
theorem ud_neg : UnD X J (unaryOp .USub) oNeg := by
  intro pins s σ H x v Q I rx ⟨pr, F, ds, q, st, ia, ho, k⟩
  unfold oNeg at ho
  split at ho
  · obtain ⟨a, e, ha⟩ := ia.one_inv
    cases e
    cases ha.int_inv
    exact un_neg pins s σ H _ v Q I rx ⟨_, rfl, ans st k (.int _) ho⟩
  · exact ho.elim
end

/-! ### order, equality, in -/
@[simp] def oCmp (f : Int → Int → Bool) : Prim
  | [.int i, .int j], q => q (.bl (f i j))
  | _, _ => False
@[simp] def oLt : Prim := oCmp fun i j => decide (i < j)
@[simp] def oLe : Prim := oCmp fun i j => decide (i ≤ j)
@[simp] def oGt : Prim := oCmp fun i j => decide (j < i)
@[simp] def oGe : Prim := oCmp fun i j => decide (j ≤ i)
section
variable {X : Cx} {J : GJ}
theorem od_cmp {op : CmpOp} {f : Int → Int → Bool} (h : OpR X (compareOp op) (rI0 fun i j => .bl (f i j))) : OpD X J (compareOp op) (oCmp f) := by
  intro pins s σ H x y v u Q I rx ry ⟨pr, F, ds, q, st, ia, ho, k⟩
  unfold oCmp at ho
  split at ho
  · obtain ⟨a, b, e, ha, hb⟩ := ia.two_inv
    cases e
    cases ha.int_inv
    cases hb.int_inv
    exact h pins s σ H _ _ v u Q I rx ry ⟨_, _, rfl, rfl, ans st k (.bl _) ho⟩
  · exact ho.elim
theorem od_lt : OpD X J (compareOp .Lt) oLt := od_cmp op_lt
theorem od_le : OpD X J (compareOp .LtE) oLe := od_cmp op_le
theorem od_gt : OpD X J (compareOp .Gt) oGt := od_cmp op_gt
theorem od_ge : OpD X J (compareOp .GtE) oGe := od_cmp op_ge
end

mutual
/-- == of data -/
@[simp] def eqD : D → D → Bool
  | .non, .non => true
  | .bl a, .bl b => a == b
  | .bl a, .int j => (if a then 1 else 0) == j
  | .int i, .bl b => i == (if b then 1 else 0)
  | .int i, .int j => i == j
  | .str x, .str y => x == y
  | .lst xs, .lst ys => eqDA xs ys
  | .tup xs, .tup ys => eqDA xs ys
  | _, _ => false
@[simp] def eqDA : List D → List D → Bool
  | [], [] => true
  | x :: xs, y :: ys => eqD x y && eqDA xs ys
  | _, _ => false
end
mutual
theorem eqv_eqD : ∀ (a b : D) (p r : PyData), toPy a = some p → toPy b = some r → PyData.eqv p r = eqD a b
  | .non, b, p, r, e1, e2 => by
    cases e1
    cases b <;> simp [toPy] at e2 <;> first | (subst e2; simp [PyData.eqv, eqD]) | (obtain ⟨_, _, e2⟩ := e2; subst e2; simp [PyData.eqv, eqD])
  | .bl a, b, p, r, e1, e2 => by
    cases e1
    cases b <;> simp [toPy] at e2 <;> first | (subst e2; simp [PyData.eqv, eqD]) | (obtain ⟨_, _, e2⟩ := e2; subst e2; simp [PyData.eqv, eqD])
  | .int a, b, p, r, e1, e2 => by
    cases e1
    cases b <;> simp [toPy] at e2 <;> first | (subst e2; simp [PyData.eqv, eqD]) | (obtain ⟨_, _, e2⟩ := e2; subst e2; simp [PyData.eqv, eqD])
  | .str a, b, p, r, e1, e2 => by
    cases e1
    cases b <;> simp [toPy] at e2 <;> first | (subst e2; simp [PyData.eqv, eqD]) | (obtain ⟨_, _, e2⟩ := e2; subst e2; simp [PyData.eqv, eqD])
  | .tup xs, b, p, r, e1, e2 => by
    simp only [toPy, Option.map_eq_some_iff] at e1
    obtain ⟨ps, h1, rfl⟩ := e1
    cases b <;> simp [toPy] at e2 <;> first | (subst e2; simp [PyData.eqv, eqD]; done) | (obtain ⟨rs, h2, rfl⟩ := e2; first | (simp only [PyData.eqv, eqD]; done) | (simp only [PyData.eqv, eqD]; exact eqvA_eqDA xs _ ps rs h1 h2))
  | .lst xs, b, p, r, e1, e2 => by
    simp only [toPy, Option.map_eq_some_iff] at e1
    obtain ⟨ps, h1, rfl⟩ := e1
    cases b <;> simp [toPy] at e2 <;> first | (subst e2; simp [PyData.eqv, eqD]; done) | (obtain ⟨rs, h2, rfl⟩ := e2; first | (simp only [PyData.eqv, eqD]; done) | (simp only [PyData.eqv, eqD]; exact eqvA_eqDA xs _ ps rs h1 h2))
  | .ins _ _, _, _, _, e, _ => by simp [toPy] at e
  | .tk _, _, _, _, e, _ => by simp [toPy] at e
  | .ty _, _, _, _, e, _ => by simp [toPy] at e
  | .cls _, _, _, _, e, _ => by simp [toPy] at e
theorem eqvA_eqDA : ∀ (as bs : List D) (ps rs : List PyData), toPyA as = some ps → toPyA bs = some rs → PyData.eqvAll ps rs = eqDA as bs
  | [], bs, ps, rs, e1, e2 => by
    simp [toPyA] at e1
    subst e1
    cases bs with
    | nil =>
      simp [toPyA] at e2
      subst e2
      simp [PyData.eqvAll, eqDA]
    | cons b bs =>
      unfold toPyA at e2
      split at e2
      · cases e2
        simp [PyData.eqvAll, eqDA]
      · cases e2
  | a :: as, bs, ps, rs, e1, e2 => by
    unfold toPyA at e1
    split at e1
    · rename_i p ps' h1 h1'
      cases e1
      cases bs with
      | nil =>
        simp [toPyA] at e2
        subst e2
        simp [PyData.eqvAll, eqDA]
      | cons b bs =>
        unfold toPyA at e2
        split at e2
        · rename_i r rs' h2 h2'
          cases e2
          simp only [PyData.eqvAll, eqDA]
          rw [eqv_eqD a b p r h1 h2, eqvA_eqDA as bs ps' rs' h1' h2']
        · cases e2
    · cases e1
end

mutual
/-- data of the library's kind, nested at most n deep -/
@[simp] def okE : Nat → D → Bool
  | _, .non => true
  | _, .bl _ => true
  | _, .int _ => true
  | _, .str x => PyData.strOk x
  | n, .tup xs => decide (0 < n) && okEA (n - 1) xs
  | n, .lst xs => decide (0 < n) && okEA (n - 1) xs
  | _, .ins _ _ => false
  | _, .tk _ => false
  | _, .ty _ => false
  | _, .cls _ => false
@[simp] def okEA : Nat → List D → Bool
  | _, [] => true
  | n, d :: ds => okE n d && okEA n ds
end
mutual
theorem okE_py : ∀ (d : D) (n : Nat), okE n d = true → ∃ p, toPy d = some p ∧ p.canLay0 = true ∧ p.depth ≤ n
  | .non, n, _ => ⟨_, rfl, by simp [PyData.canLay0], by simp [PyData.depth]⟩
  | .bl _, n, _ => ⟨_, rfl, by simp [PyData.canLay0], by simp [PyData.depth]⟩
  | .int _, n, _ => ⟨_, rfl, by simp [PyData.canLay0], by simp [PyData.depth]⟩
  | .str x, n, h => ⟨_, rfl, by simpa [PyData.canLay0, okE] using h, by simp [PyData.depth]⟩
  | .tup xs, n, h => by
    simp only [okE, Bool.and_eq_true, decide_eq_true_eq] at h
    obtain ⟨ps, e, h1, h2⟩ := okEA_py xs _ h.2
    exact ⟨.tuple ps, by simp [toPy, e], by simpa [PyData.canLay0] using h1, by simp only [PyData.depth]; omega⟩
  | .lst xs, n, h => by
    simp only [okE, Bool.and_eq_true, decide_eq_true_eq] at h
    obtain ⟨ps, e, h1, h2⟩ := okEA_py xs _ h.2
    exact ⟨.list ps, by simp [toPy, e], by simpa [PyData.canLay0] using h1, by simp only [PyData.depth]; omega⟩
  | .ins _ _, _, h => by simp [okE] at h
  | .tk _, _, h => by simp [okE] at h
  | .ty _, _, h => by simp [okE] at h
  | .cls _, _, h => by simp [okE] at h
theorem okEA_py : ∀ (ds : List D) (n : Nat), okEA n ds = true → ∃ ps, toPyA ds = some ps ∧ PyData.canLayAll0 ps = true ∧ PyData.depthAll ps ≤ n
  | [], n, _ => ⟨[], by simp [toPyA], by simp [PyData.canLayAll0], by simp [PyData.depthAll]⟩
  | d :: ds, n, h => by
    simp only [okEA, Bool.and_eq_true] at h
    obtain ⟨p, e, h1, h2⟩ := okE_py d n h.1
    obtain ⟨ps, e', h1', h2'⟩ := okEA_py ds n h.2
    exact ⟨p :: ps, by simp [toPyA, e, e'], by simp [PyData.canLayAll0, h1, h1'], by simp only [PyData.depthAll]; omega⟩
end
theorem okE_shaped {d : D} (h : okE 60 d = true) : ∃ p, toPy d = some p ∧ SeqAt.shaped p = true := by
  obtain ⟨p, e, h1, h2⟩ := okE_py d 60 h
  refine ⟨p, e, ?_⟩
  unfold SeqAt.shaped
  rw [h1, Bool.true_and]
  exact decide_eq_true (by omega)

@[simp] def oEq : Prim
  | [a, b], q => ((okE 60 a = true ∧ okE 60 b = true) ∨ ∃ x y, a = .str x ∧ b = .str y) ∧ q (.bl (eqD a b))
  | _, _ => False
@[simp] def oNe : Prim
  | [a, b], q => ((okE 60 a = true ∧ okE 60 b = true) ∨ ∃ x y, a = .str x ∧ b = .str y) ∧ q (.bl (!eqD a b))
  | _, _ => False
def inD (x : D) (ys : List D) : Bool := ys.any fun y => eqD y x
@[simp] def oIn : Prim
  | [x, .lst ys], q => okE 60 x = true ∧ okE 60 (.lst ys) = true ∧ q (.bl (inD x ys))
  | [x, .tup ys], q => okE 60 x = true ∧ okE 60 (.tup ys) = true ∧ q (.bl (inD x ys))
  | _, _ => False
@[simp] def oNotIn : Prim
  | [x, .lst ys], q => okE 60 x = true ∧ okE 60 (.lst ys) = true ∧ q (.bl (!inD x ys))
  | [x, .tup ys], q => okE 60 x = true ∧ okE 60 (.tup ys) = true ∧ q (.bl (!inD x ys))
  | _, _ => False
theorem any_inD {x : D} {p : PyData} (hx : toPy x = some p) : ∀ {ys : List D} {ps : List PyData}, toPyA ys = some ps → (ps.any fun z => PyData.eqv z p) = inD x ys
  | [], _, e => by
    simp [toPyA] at e
    subst e
    rfl
  | y :: ys, _, e => by
    unfold toPyA at e
    split at e
    · rename_i r rs h1 h2
      cases e
      have ih := any_inD hx h2
      unfold inD at ih ⊢
      rw [List.any_cons, List.any_cons, eqv_eqD y x r p h1 hx, ih]
    · cases e
section
variable {X : Cx} {J : GJ}
theorem od_eq (hu : X.A.units + 64 < cLine) : OpD X J (compareOp .Eq) oEq := by
  intro pins s σ H x y v u Q I rx ry ⟨pr, F, ds, q, st, ia, ho, k⟩
  unfold oEq at ho
  split at ho
  · obtain ⟨a, b, e, ha, hb⟩ := ia.two_inv
    cases e
    rcases ho.1 with h | ⟨z, w, rfl, rfl⟩
    · obtain ⟨p, e1, s1⟩ := okE_shaped h.1
      obtain ⟨r, e2, s2⟩ := okE_shaped h.2
      refine op_eqD hu pins s σ H _ _ v u Q I rx ry ⟨p, r, ha.toDp st.sub e1, hb.toDp st.sub e2, s1, s2, ?_⟩
      rw [eqv_eqD _ _ p r e1 e2]
      exact ans st k (.bl _) ho.2
    · cases ha.str_inv
      cases hb.str_inv
      refine op_eq pins s σ H _ _ v u Q I rx ry ⟨rfl, ?_⟩
      have e : decide (V.str z = V.str w) = eqD (.str z) (.str w) := by
        show _ = (z == w)
        rw [Bool.eq_iff_iff, decide_eq_true_eq, beq_iff_eq]
        exact ⟨fun h => V.str.inj h, fun h => by rw [h]⟩
      rw [e]
      exact ans st k (.bl _) ho.2
  · exact ho.elim
theorem od_ne (hu : X.A.units + 64 < cLine) : OpD X J (compareOp .NotEq) oNe := by
  intro pins s σ H x y v u Q I rx ry ⟨pr, F, ds, q, st, ia, ho, k⟩
  unfold oNe at ho
  split at ho
  · obtain ⟨a, b, e, ha, hb⟩ := ia.two_inv
    cases e
    rcases ho.1 with h | ⟨z, w, rfl, rfl⟩
    · obtain ⟨p, e1, s1⟩ := okE_shaped h.1
      obtain ⟨r, e2, s2⟩ := okE_shaped h.2
      refine op_neD hu pins s σ H _ _ v u Q I rx ry ⟨p, r, ha.toDp st.sub e1, hb.toDp st.sub e2, s1, s2, ?_⟩
      rw [eqv_eqD _ _ p r e1 e2]
      exact ans st k (.bl _) ho.2
    · cases ha.str_inv
      cases hb.str_inv
      refine op_ne pins s σ H _ _ v u Q I rx ry ⟨rfl, ?_⟩
      have e : decide (V.str z = V.str w) = eqD (.str z) (.str w) := by
        show _ = (z == w)
        rw [Bool.eq_iff_iff, decide_eq_true_eq, beq_iff_eq]
        exact ⟨fun h => V.str.inj h, fun h => by rw [h]⟩
      rw [e]
      exact ans st k (.bl _) ho.2
  · exact ho.elim
theorem od_in (hu : X.A.units + 65 < cLine) : OpD X J (compareOp .In) oIn := by
  intro pins s σ H x y v u Q I rx ry ⟨pr, F, ds, q, st, ia, ho, k⟩
  unfold oIn at ho
  split at ho
  · obtain ⟨a, b, e, ha, hb⟩ := ia.two_inv
    cases e
    obtain ⟨p, e1, s1⟩ := okE_shaped ho.1
    obtain ⟨r, e2, s2⟩ := okE_shaped ho.2.1
    have e3 := e2
    simp only [toPy, Option.map_eq_some_iff] at e3
    obtain ⟨rs, e4, rfl⟩ := e3
    refine op_inD hu pins s σ H _ _ v u Q I rx ry ⟨p, rs, ha.toDp st.sub e1, hb.toDp st.sub e2, s1, s2, ?_⟩
    rw [any_inD e1 e4]
    exact ans st k (.bl _) ho.2.2
  · obtain ⟨a, b, e, ha, hb⟩ := ia.two_inv
    cases e
    obtain ⟨p, e1, s1⟩ := okE_shaped ho.1
    obtain ⟨r, e2, s2⟩ := okE_shaped ho.2.1
    have e3 := e2
    simp only [toPy, Option.map_eq_some_iff] at e3
    obtain ⟨rs, e4, rfl⟩ := e3
    obtain ⟨as, r1⟩ := Dp.reads I p _ v (ha.toDp st.sub e1) rx
    obtain ⟨bs, r2⟩ := Dp.reads I (.tuple rs) _ u (hb.toDp st.sub e2) ry
    refine SeqAt.in_tuple_reads r2 r1 (SeqAt.canLay_of_shaped s2) (SeqAt.canLay_of_shaped s1) ?_ ⟨.bl _, H, I, rfl, ?_⟩
    · have h1 := SeqAt.depth_of_shaped s1
      have := Nat.min_le_right (PyData.depthAll rs) p.depth
      omega
    · rw [any_inD e1 e4]
      exact ans st k (.bl _) ho.2.2
  · exact ho.elim
theorem od_notIn (hu : X.A.units + 65 < cLine) : OpD X J (compareOp .NotIn) oNotIn := by
  intro pins s σ H x y v u Q I rx ry ⟨pr, F, ds, q, st, ia, ho, k⟩
  unfold oNotIn at ho
  split at ho
  · obtain ⟨a, b, e, ha, hb⟩ := ia.two_inv
    cases e
    obtain ⟨p, e1, s1⟩ := okE_shaped ho.1
    obtain ⟨r, e2, s2⟩ := okE_shaped ho.2.1
    have e3 := e2
    simp only [toPy, Option.map_eq_some_iff] at e3
    obtain ⟨rs, e4, rfl⟩ := e3
    refine op_notInD hu pins s σ H _ _ v u Q I rx ry ⟨p, rs, ha.toDp st.sub e1, hb.toDp st.sub e2, s1, s2, ?_⟩
    rw [any_inD e1 e4]
    exact ans st k (.bl _) ho.2.2
  · obtain ⟨a, b, e, ha, hb⟩ := ia.two_inv
    cases e
    obtain ⟨p, e1, s1⟩ := okE_shaped ho.1
    obtain ⟨r, e2, s2⟩ := okE_shaped ho.2.1
    have e3 := e2
    simp only [toPy, Option.map_eq_some_iff] at e3
    obtain ⟨rs, e4, rfl⟩ := e3
    obtain ⟨as, r1⟩ := Dp.reads I p _ v (ha.toDp st.sub e1) rx
    obtain ⟨bs, r2⟩ := Dp.reads I (.tuple rs) _ u (hb.toDp st.sub e2) ry
    refine SeqAt.notIn_tuple_reads r2 r1 (SeqAt.canLay_of_shaped s2) (SeqAt.canLay_of_shaped s1) ?_ ⟨.bl _, H, I, rfl, ?_⟩
    · have h1 := SeqAt.depth_of_shaped s1
      have := Nat.min_le_right (PyData.depthAll rs) p.depth
      omega
    · rw [any_inD e1 e4]
      exact ans st k (.bl _) ho.2.2
  · exact ho.elim
end

/-! ### subscripts, slices -/
@[simp] def oIx : Prim
  | [.lst xs, .int i], q => ∃ d, atI xs i = some d ∧ q d
  | [.tup xs, .int i], q => ∃ d, atI xs i = some d ∧ q d
  | _, _ => False
def cutD {α : Type} (xs : List α) (lo hi : Option Int) : List α := (xs.drop (HT.sIx xs.length 0 lo)).take (HT.sIx xs.length xs.length hi - HT.sIx xs.length 0 lo)
/-- a slice by data -/
abbrev PrimS := D → Option Int → Option Int → (D → Prop) → Prop
@[simp] def oSl : PrimS
  | .lst xs, lo, hi, q => q (.lst (cutD xs lo hi))
  | .tup xs, lo, hi, q => q (.tup (cutD xs lo hi))
  | _, _, _, _ => False
def rPS (K : PySem.W.Frag) (mg : Str → Option Value) (J : GJ) (O : PrimS) : V → Option Int → Option Int → Hp → VK → Prop := fun v lo hi H Q =>
  ∃ (pr F : Hp) (d : D) (q : D → Prop), St8 J pr F H ∧ IsB K mg F H v d ∧ O d lo hi q ∧ ∀ d z F' H', Stp J pr F H F' H' → Is K mg F' z d → q d → Q z H'
def SlD (X : Cx) (J : GJ) (O : PrimS) : Prop := SlR X (rPS X.K X.mg J O)
theorem isA_atI {K : PySem.W.Frag} {mg : Str → Option Value} {F : Hp} {vs : List V} {xs : List D} (h : IsA K mg F vs xs) {i : Int} {d : D} (e : atI xs i = some d) : ∃ v, atI vs i = some v ∧ Is K mg F v d := by
  unfold atI at e ⊢
  rw [h.length]
  cases hx : ixN xs.length i with
  | none =>
    rw [hx] at e
    cases e
  | some j =>
    rw [hx] at e
    exact h.get e
theorem isA_cut {K : PySem.W.Frag} {mg : Str → Option Value} {F : Hp} {vs : List V} {xs : List D} (h : IsA K mg F vs xs) (lo hi : Option Int) : IsA K mg F (cutV vs lo hi) (cutD xs lo hi) := by
  unfold cutV cutD
  rw [h.length]
  exact (h.drop _).take _
theorem cutD_whole {α : Type} (xs : List α) (lo hi : Option Int) (h : HT.sIx xs.length 0 lo = 0 ∧ HT.sIx xs.length xs.length hi = xs.length) : cutD xs lo hi = xs := by
  unfold cutD
  rw [h.1, h.2, List.drop_zero, Nat.sub_zero, List.take_length]
section
variable {X : Cx} {J : GJ}
theorem od_ix : IxD X J oIx := by
  intro ea eb pins s σ H x y v u Q I rx ry ⟨pr, F, ds, q, st, ia, ho, k⟩ hs
  unfold oIx at ho
  split at ho
  · obtain ⟨a, b, e, ha, hb⟩ := ia.two_inv
    cases e
    cases hb.int_inv
    obtain ⟨p1, vs, rfl, h1, a1⟩ := ha.lst_inv st.sub
    obtain ⟨d, e, ho⟩ := ho
    obtain ⟨z, e2, hz⟩ := isA_atI a1 e
    exact ix_list ea eb pins s σ H _ _ v u Q I rx ry ⟨_, vs, _, z, rfl, rfl, SqL.of h1, e2, ans st k hz ho⟩ hs
  · obtain ⟨a, b, e, ha, hb⟩ := ia.two_inv
    cases e
    cases hb.int_inv
    obtain ⟨p1, vs, rfl, h1, a1⟩ := ha.tup_inv
    obtain ⟨d, e, ho⟩ := ho
    obtain ⟨z, e2, hz⟩ := isA_atI a1 e
    exact ix_tup ea eb pins s σ H _ _ v u Q I rx ry ⟨_, vs, _, z, rfl, rfl, same_seqT st.sub h1, e2, ans st k hz ho⟩ hs
  · exact ho.elim
theorem od_sl : SlD X J oSl := by
  intro pins s σ H x v vl vu lo hi sl Q I rx hs pl pu ⟨pr, F, d, q, st, ha, ho, k⟩
  unfold oSl at ho
  split at ho
  · obtain ⟨p1, vs, rfl, h1, a1⟩ := ha.lst_inv st.sub
    exact sl_list pins s σ H _ v vl vu lo hi sl Q I rx hs pl pu ⟨_, vs, rfl, SqL.of h1, fun p hp => ansNew st k hp (is_lst (isA_cut a1 lo hi)) ho⟩
  · obtain ⟨p1, vs, rfl, h1, a1⟩ := ha.tup_inv
    refine sl_tupA pins s σ H _ v vl vu _ _ sl Q I rx hs pl pu ⟨_, vs, rfl, same_seqT st.sub h1, fun w => ?_, fun _ p hp => ansNew st k hp (is_tup (isA_cut a1 _ _)) ho⟩
    rw [a1.length] at w
    rw [cutD_whole _ _ _ w] at ho
    exact ans st k (.tup h1 a1) ho
  · exact ho.elim
end
end DL

/-! DL2: built-in functions by data. -/
namespace DL
open PySem PySem.Spec PyProof.Rows L2

/-! ### len, list, tuple, int, abs -/
@[simp] def oLen : Prim
  | [.lst xs], q => q (.int xs.length)
  | [.tup xs], q => q (.int xs.length)
  | [.str x], q => x.length ≤ sizeLine ∧ q (.int x.length)
  | _, _ => False
@[simp] def oList : Prim
  | [.lst xs], q => q (.lst xs)
  | [.tup xs], q => q (.lst xs)
  | _, _ => False
@[simp] def oTuple : Prim
  | [.lst xs], q => q (.tup xs)
  | [.tup xs], q => q (.tup xs)
  | _, _ => False
@[simp] def oInt : Prim
  | [.int i], q => q (.int i)
  | [.bl k], q => q (.int (if k then 1 else 0))
  | _, _ => False
@[simp] def oAbs : Prim
  | [.int i], q => q (.int (if i < 0 then -i else i))
  | _, _ => False
section
variable {X : Cx} {J : GJ}
theorem cd_len : CallD X J (.builtin "len") oLen := by
  intro pins s σ H xs us Q I r ⟨pr, F, ds, q, st, ia, ho, k⟩
  unfold oLen at ho
  split at ho
  · obtain ⟨a, e, ha⟩ := ia.one_inv
    cases e
    obtain ⟨p1, vs, rfl, h1, a1⟩ := ha.lst_inv st.sub
    refine call_len_seq pins s σ H _ us Q I r ⟨_, vs, rfl, .inl (SqL.of h1), ?_⟩
    rw [a1.length]
    exact ans st k (.int _) ho
  · obtain ⟨a, e, ha⟩ := ia.one_inv
    cases e
    obtain ⟨p1, vs, rfl, h1, a1⟩ := ha.tup_inv
    refine call_len_seq pins s σ H _ us Q I r ⟨_, vs, rfl, .inr (same_seqT st.sub h1), ?_⟩
    rw [a1.length]
    exact ans st k (.int _) ho
  · obtain ⟨a, e, ha⟩ := ia.one_inv
    cases e
    cases ha.str_inv
    exact call_len_str pins s σ H _ us Q I r ⟨_, rfl, ho.1, ans st k (.int _) ho.2⟩
  · exact ho.elim
theorem cd_list : CallD X J (.type "list") oList := by
  intro pins s σ H xs us Q I r ⟨pr, F, ds, q, st, ia, ho, k⟩
  unfold oList at ho
  split at ho
  · obtain ⟨a, e, ha⟩ := ia.one_inv
    cases e
    obtain ⟨p1, vs, rfl, h1, a1⟩ := ha.lst_inv st.sub
    exact call_list_of pins s σ H _ us Q I r ⟨_, vs, rfl, .inl (SqL.of h1), fun p hp => ansNew st k hp (is_lst a1) ho⟩
  · obtain ⟨a, e, ha⟩ := ia.one_inv
    cases e
    obtain ⟨p1, vs, rfl, h1, a1⟩ := ha.tup_inv
    exact call_list_of pins s σ H _ us Q I r ⟨_, vs, rfl, .inr (same_seqT st.sub h1), fun p hp => ansNew st k hp (is_lst a1) ho⟩
  · exact ho.elim
theorem cd_tuple : CallD X J (.type "tuple") oTuple := by
  intro pins s σ H xs us Q I r ⟨pr, F, ds, q, st, ia, ho, k⟩
  unfold oTuple at ho
  split at ho
  · obtain ⟨a, e, ha⟩ := ia.one_inv
    cases e
    obtain ⟨p1, vs, rfl, h1, a1⟩ := ha.lst_inv st.sub
    exact call_tuple_of pins s σ H _ us Q I r ⟨_, vs, rfl, .inl ⟨SqL.of h1, fun p hp => ansNew st k hp (is_tup a1) ho⟩⟩
  · obtain ⟨a, e, ha⟩ := ia.one_inv
    cases e
    obtain ⟨p1, vs, rfl, h1, a1⟩ := ha.tup_inv
    exact call_tuple_of pins s σ H _ us Q I r ⟨_, vs, rfl, .inr ⟨same_seqT st.sub h1, ans st k (.tup h1 a1) ho⟩⟩
  · exact ho.elim
theorem cd_int : CallD X J (.type "int") oInt := by
  intro pins s σ H xs us Q I r ⟨pr, F, ds, q, st, ia, ho, k⟩
  unfold oInt at ho
  split at ho
  · obtain ⟨a, e, ha⟩ := ia.one_inv
    cases e
    cases ha.int_inv
    exact call_int1 pins s σ H _ us Q I r (.inl ⟨_, rfl, ans st k (.int _) ho⟩)
  · obtain ⟨a, e, ha⟩ := ia.one_inv
    cases e
    cases ha.bl_inv
    exact call_int1 pins s σ H _ us Q I r (.inr ⟨_, rfl, ans st k (.int _) ho⟩)
  · exact ho.elim
theorem cd_abs : CallD X J (.builtin "abs") oAbs := by
  intro pins s σ H xs us Q I r ⟨pr, F, ds, q, st, ia, ho, k⟩
  unfold oAbs at ho
  split at ho
  · obtain ⟨a, e, ha⟩ := ia.one_inv
    cases e
    cases ha.int_inv
    exact call_abs pins s σ H _ us Q I r ⟨_, rfl, ans st k (.int _) ho⟩
  · exact ho.elim
end

/-! ### all, any, sum, max, min of lists -/
@[simp] def oAll : Prim
  | [.lst xs], q => ∃ bs : List Bool, xs = bs.map D.bl ∧ q (.bl (bs.all id))
  | _, _ => False
@[simp] def oAny : Prim
  | [.lst xs], q => ∃ bs : List Bool, xs = bs.map D.bl ∧ q (.bl (bs.any id))
  | _, _ => False
@[simp] def oSum : Prim
  | [.lst xs], q => ∃ ns : List Int, xs = ns.map D.int ∧ q (.int ns.sum)
  | _, _ => False
@[simp] def oMax : Prim
  | [.lst xs], q => ∃ ns : List Int, xs = ns.map D.int ∧ 0 < ns.length ∧ ∀ m, m ∈ ns → (∀ y, y ∈ ns → y ≤ m) → q (.int m)
  | [.int i, .int j], q => q (.int (if j > i then j else i))
  | _, _ => False
@[simp] def oMin : Prim
  | [.lst xs], q => ∃ ns : List Int, xs = ns.map D.int ∧ 0 < ns.length ∧ ∀ m, m ∈ ns → (∀ y, y ∈ ns → m ≤ y) → q (.int m)
  | [.int i, .int j], q => q (.int (if j < i then j else i))
  | _, _ => False
section
variable {X : Cx} {J : GJ}
theorem cd_all (hc : X.calm = true) : CallD X J (.builtin "all") oAll := by
  intro pins s σ H xs us Q I r ⟨pr, F, ds, q, st, ia, ho, k⟩
  unfold oAll at ho
  split at ho
  · obtain ⟨a, e, ha⟩ := ia.one_inv
    cases e
    obtain ⟨p1, vs, rfl, h1, a1⟩ := ha.lst_inv st.sub
    obtain ⟨bs, rfl, ho⟩ := ho
    rw [a1.bls] at h1
    exact cr_all hc pins s σ H _ us Q I r ⟨_, bs, rfl, SqL.of h1, ans st k (.bl _) ho⟩
  · exact ho.elim
theorem cd_any (hc : X.calm = true) : CallD X J (.builtin "any") oAny := by
  intro pins s σ H xs us Q I r ⟨pr, F, ds, q, st, ia, ho, k⟩
  unfold oAny at ho
  split at ho
  · obtain ⟨a, e, ha⟩ := ia.one_inv
    cases e
    obtain ⟨p1, vs, rfl, h1, a1⟩ := ha.lst_inv st.sub
    obtain ⟨bs, rfl, ho⟩ := ho
    rw [a1.bls] at h1
    exact cr_any hc pins s σ H _ us Q I r ⟨_, bs, rfl, SqL.of h1, ans st k (.bl _) ho⟩
  · exact ho.elim
theorem cd_sum (hc : X.calm = true) : CallD X J (.builtin "sum") oSum := by
  intro pins s σ H xs us Q I r ⟨pr, F, ds, q, st, ia, ho, k⟩
  unfold oSum at ho
  split at ho
  · obtain ⟨a, e, ha⟩ := ia.one_inv
    cases e
    obtain ⟨p1, vs, rfl, h1, a1⟩ := ha.lst_inv st.sub
    obtain ⟨bs, rfl, ho⟩ := ho
    rw [a1.ints] at h1
    exact cr_sum hc pins s σ H _ us Q I r ⟨_, bs, rfl, SqL.of h1, ans st k (.int _) ho⟩
  · exact ho.elim
theorem cd_max (hc : X.calm = true) : CallD X J (.builtin "max") oMax := by
  intro pins s σ H xs us Q I r ⟨pr, F, ds, q, st, ia, ho, k⟩
  unfold oMax at ho
  split at ho
  · obtain ⟨a, e, ha⟩ := ia.one_inv
    cases e
    obtain ⟨p1, vs, rfl, h1, a1⟩ := ha.lst_inv st.sub
    obtain ⟨bs, rfl, hl, ho⟩ := ho
    rw [a1.ints] at h1
    exact cr_max hc pins s σ H _ us Q I r ⟨_, bs, rfl, SqL.of h1, hl, fun m h2 h3 => ans st k (.int _) (ho m h2 h3)⟩
  · obtain ⟨a, b, e, ha, hb⟩ := ia.two_inv
    cases e
    cases ha.int_inv
    cases hb.int_inv
    exact call_max2 hc pins s σ H _ us Q I r ⟨_, _, rfl, ans st k (.int _) ho⟩
  · exact ho.elim
theorem cd_min (hc : X.calm = true) : CallD X J (.builtin "min") oMin := by
  intro pins s σ H xs us Q I r ⟨pr, F, ds, q, st, ia, ho, k⟩
  unfold oMin at ho
  split at ho
  · obtain ⟨a, e, ha⟩ := ia.one_inv
    cases e
    obtain ⟨p1, vs, rfl, h1, a1⟩ := ha.lst_inv st.sub
    obtain ⟨bs, rfl, hl, ho⟩ := ho
    rw [a1.ints] at h1
    exact cr_min hc pins s σ H _ us Q I r ⟨_, bs, rfl, SqL.of h1, hl, fun m h2 h3 => ans st k (.int _) (ho m h2 h3)⟩
  · obtain ⟨a, b, e, ha, hb⟩ := ia.two_inv
    cases e
    cases ha.int_inv
    cases hb.int_inv
    exact call_min2 hc pins s σ H _ us Q I r ⟨_, _, rfl, ans st k (.int _) ho⟩
  · exact ho.elim
end

/-! ### isinstance with a built-in class -/
def tyOf : D → Option String
  | .non => some "NoneType"
  | .bl _ => some "bool"
  | .int _ => some "int"
  | .str _ => some "str"
  | .tup _ => some "tuple"
  | .lst _ => some "list"
  | _ => none
def isiB (a T : String) : Bool := a == T || (a == "bool" && T == "int")
def isiT : List String := ["int", "bool", "tuple", "str", "list"]
theorem kit_isi : ∀ a ∈ ["NoneType", "bool", "int", "str", "tuple", "list"], ∀ T ∈ isiT, kitB a T = some (isiB a T) := by decide +kernel
@[simp] def isiD : D → String → Bool
  | .bl _, T => T == "bool" || T == "int"
  | .int _, T => T == "int"
  | .str _, T => T == "str"
  | .tup _, T => T == "tuple"
  | .lst _, T => T == "list"
  | _, _ => false
@[simp] def isPl : D → Bool
  | .non | .bl _ | .int _ | .str _ | .tup _ | .lst _ => true
  | _ => false
@[simp] def oIsi : Prim
  | [d, .ty T], q => isPl d = true ∧ isiT.contains T = true ∧ q (.bl (isiD d T))
  | _, _ => False
theorem isi_eq {d : D} {T : String} (h : isPl d = true) (hT : T ∈ isiT) : ∃ a, tyOf d = some a ∧ kitB a T = some (isiD d T) := by
  have key : ∀ a ∈ ["NoneType", "bool", "int", "str", "tuple", "list"], kitB a T = some (isiB a T) := fun a ha => kit_isi a ha T hT
  have nn : (("NoneType" : String) == T) = false := by
    simp only [isiT, List.mem_cons, List.not_mem_nil, or_false] at hT
    rcases hT with rfl | rfl | rfl | rfl | rfl <;> decide
  cases d with
  | non => exact ⟨_, rfl, by rw [key _ (by decide)]; simp [isiB, isiD, nn]⟩
  | bl b =>
    refine ⟨_, rfl, by rw [key _ (by decide)]; simp only [isiB, isiD]; congr 1; rw [Bool.beq_comm (a := ("bool" : String))] <;> simp [Bool.beq_comm]⟩
  | int i => exact ⟨_, rfl, by rw [key _ (by decide)]; simp [isiB, isiD, Bool.beq_comm]⟩
  | str x => exact ⟨_, rfl, by rw [key _ (by decide)]; simp [isiB, isiD, Bool.beq_comm]⟩
  | tup xs => exact ⟨_, rfl, by rw [key _ (by decide)]; simp [isiB, isiD, Bool.beq_comm]⟩
  | lst xs => exact ⟨_, rfl, by rw [key _ (by decide)]; simp [isiB, isiD, Bool.beq_comm]⟩
  | ins _ _ => cases h
  | tk _ => cases h
  | ty _ => cases h
  | cls _ => cases h
theorem tyX_of {K : PySem.W.Frag} {mg : Str → Option Value} {F H : Hp} {v : V} {d : D} {a : String} (s : Same F H) (h : IsB K mg F H v d) (e : tyOf d = some a) : TyX K H v (.type a) := by
  cases d with
  | non =>
    cases e
    cases h.non_inv
    exact .base .non
  | bl b =>
    cases e
    cases h.bl_inv
    exact .base (.bl _)
  | int i =>
    cases e
    cases h.int_inv
    exact .base (.int _)
  | str x =>
    cases e
    cases h.str_inv
    exact .base (.str _)
  | tup xs =>
    cases e
    obtain ⟨p, vs, rfl, h1, _⟩ := h.tup_inv
    rcases same_seqT s h1 with (h1 | ⟨o, h1⟩) | ⟨o, its, n, h1, h2, _⟩
    · exact .base (.tup h1)
    · exact .fTuple h1
    · exact .kTuple h1 h2
  | lst xs =>
    cases e
    obtain ⟨p, vs, rfl, h1, _⟩ := h.lst_inv s
    exact .base (.lst h1)
  | ins _ _ => cases e
  | tk _ => cases e
  | ty _ => cases e
  | cls _ => cases e
section
variable {X : Cx} {J : GJ}
theorem cd_isi : CallD X J (.builtin "isinstance") oIsi := by
  intro pins s σ H xs us Q I r ⟨pr, F, ds, q, st, ia, ho, k⟩
  unfold oIsi at ho
  split at ho
  · obtain ⟨a, b, e, ha, hb⟩ := ia.two_inv
    cases e
    cases hb.ty_inv
    obtain ⟨h1, h2, ho⟩ := ho
    obtain ⟨t, e1, e2⟩ := isi_eq h1 (by simpa using h2)
    exact call_isi pins s σ H _ us Q I r ⟨_, _, .type t, .type _, _, rfl, .ty _, tyX_of st.sub ha e1, kit_ty e2, ans st k (.bl _) ho⟩
  · exact ho.elim
end

/-! ### repr -/
mutual
/-- its ints are short enough to be written -/
@[simp] def okS : D → Bool
  | .int i => decide (i.natAbs.log2 < 1920)
  | .tup xs => okSA xs
  | .lst xs => okSA xs
  | _ => true
@[simp] def okSA : List D → Bool
  | [] => true
  | d :: ds => okS d && okSA ds
end
mutual
/-- at most so many signs are written -/
def rl : D → Nat
  | .int _ => 1921
  | .str x => (reprText x).length
  | .tup xs => rlA xs + 4
  | .lst xs => rlA xs + 4
  | _ => 5
def rlA : List D → Nat
  | [] => 0
  | d :: ds => rl d + 2 + rlA ds
end
theorem listText_le (ts : List Str) : (listText ts).length ≤ piled ts + 4 := by
  unfold listText
  rw [strLen_append]
  have e2 : (("]" : String) : Str).length = 1 := rfl
  rw [e2]
  cases ts with
  | nil =>
    show (("[" : String) : Str).length + 1 ≤ _
    have e1 : (("[" : String) : Str).length = 1 := rfl
    omega
  | cons t r =>
    show (textFrom 1 (("[" : Str) ++ (if 0 > 0 then ", " else "" : String) ++ t) r).length + 1 ≤ _
    rw [textFrom_length_pos r 1 _ (by decide), strLen_append, strLen_append, piled_cons]
    have e1 : (("[" : String) : Str).length = 1 := rfl
    have e3 : (((if (0:Nat) > 0 then ", " else "" : String)) : Str).length = 0 := rfl
    rw [e1, e3]
    omega
theorem tupleText_le (ts : List Str) : (tupleText ts).length ≤ piled ts + 4 := by
  unfold tupleText
  rw [strLen_append, strLen_append]
  have e1 : (("(" : String) : Str).length = 1 := rfl
  have e3 : (((if ts.length == 1 then ",)" else ")" : String) : Str)).length ≤ 2 := by split <;> decide
  rw [e1]
  by_cases h : ts = []
  · subst h
    have : (Str.join ", " ([] : List Str)).length = 0 := rfl
    omega
  · have := join_length_add ts h
    omega
mutual
theorem shown_le : ∀ (d : D) (p : PyData), toPy d = some p → okS d = true → p.shown.length ≤ rl d
  | .non, _, e, _ => by
    cases e
    simp only [PyData.shown, rl]
    decide
  | .bl b, _, e, _ => by
    cases e
    simp only [PyData.shown, rl]
    cases b <;> decide
  | .int i, _, e, h => by
    cases e
    simp only [PyData.shown, rl]
    exact int_text_len_1921 (by simpa [okS] using h)
  | .str x, _, e, _ => by
    cases e
    simp only [PyData.shown, rl]
    exact Nat.le_refl _
  | .tup xs, _, e, h => by
    simp only [toPy, Option.map_eq_some_iff] at e
    obtain ⟨ps, e1, rfl⟩ := e
    simp only [PyData.shown, rl]
    have := shownA_le xs ps e1 (by simpa [okS] using h)
    have := tupleText_le (PyData.shownAll ps)
    omega
  | .lst xs, _, e, h => by
    simp only [toPy, Option.map_eq_some_iff] at e
    obtain ⟨ps, e1, rfl⟩ := e
    simp only [PyData.shown, rl]
    have := shownA_le xs ps e1 (by simpa [okS] using h)
    have := listText_le (PyData.shownAll ps)
    omega
  | .ins _ _, _, e, _ => by simp [toPy] at e
  | .tk _, _, e, _ => by simp [toPy] at e
  | .ty _, _, e, _ => by simp [toPy] at e
  | .cls _, _, e, _ => by simp [toPy] at e
theorem shownA_le : ∀ (ds : List D) (ps : List PyData), toPyA ds = some ps → okSA ds = true → piled (PyData.shownAll ps) ≤ rlA ds
  | [], _, e, _ => by
    simp [toPyA] at e
    subst e
    simp [PyData.shownAll, piled, rlA]
  | d :: ds, _, e, h => by
    unfold toPyA at e
    split at e
    · rename_i p ps e1 e2
      cases e
      simp only [okSA, Bool.and_eq_true] at h
      simp only [PyData.shownAll, piled_cons, rlA]
      have := shown_le d p e1 h.1
      have := shownA_le ds ps e2 h.2
      omega
    · cases e
end
mutual
theorem showable_of : ∀ (d : D) (p : PyData), toPy d = some p → okS d = true → p.showable = true
  | .non, _, e, _ => by
    cases e
    simp [PyData.showable]
  | .bl b, _, e, _ => by
    cases e
    simp [PyData.showable]
  | .int i, _, e, h => by
    cases e
    simpa [PyData.showable, okS] using h
  | .str x, _, e, _ => by
    cases e
    simp [PyData.showable]
  | .tup xs, _, e, h => by
    simp only [toPy, Option.map_eq_some_iff] at e
    obtain ⟨ps, e1, rfl⟩ := e
    simp only [PyData.showable]
    exact showableA_of xs ps e1 (by simpa [okS] using h)
  | .lst xs, _, e, h => by
    simp only [toPy, Option.map_eq_some_iff] at e
    obtain ⟨ps, e1, rfl⟩ := e
    simp only [PyData.showable]
    exact showableA_of xs ps e1 (by simpa [okS] using h)
  | .ins _ _, _, e, _ => by simp [toPy] at e
  | .tk _, _, e, _ => by simp [toPy] at e
  | .ty _, _, e, _ => by simp [toPy] at e
  | .cls _, _, e, _ => by simp [toPy] at e
theorem showableA_of : ∀ (ds : List D) (ps : List PyData), toPyA ds = some ps → okSA ds = true → PyData.showableAll ps = true
  | [], _, e, _ => by
    simp [toPyA] at e
    subst e
    simp [PyData.showableAll]
  | d :: ds, _, e, h => by
    unfold toPyA at e
    split at e
    · rename_i p ps e1 e2
      cases e
      simp only [okSA, Bool.and_eq_true] at h
      simp only [PyData.showableAll, Bool.and_eq_true]
      exact ⟨showable_of d p e1 h.1, showableA_of ds ps e2 h.2⟩
    · cases e
end
def shownD (d : D) : Str := match toPy d with
  | some p => p.shown
  | none => ""
@[simp] def oRepr : Prim
  | [d], q => okE 60 d = true ∧ okS d = true ∧ rl d ≤ sizeLine ∧ q (.str (shownD d))
  | _, _ => False
section
variable {X : Cx} {J : GJ}
theorem cd_repr (hg : X.A.guards = some []) (hu : X.A.units + 64 < cLine) : CallD X J (.builtin "repr") oRepr := by
  intro pins s σ H xs us Q I r ⟨pr, F, ds, q, st, ia, ho, k⟩
  unfold oRepr at ho
  split at ho
  · rename_i q0 d
    obtain ⟨a, e, ha⟩ := ia.one_inv
    cases e
    obtain ⟨u, rfl, ru⟩ := vals1 r
    obtain ⟨h1, h2, h3, ho⟩ := ho
    obtain ⟨p, e1, c1, c2⟩ := okE_py d 60 h1
    have hz : p.shown.length ≤ sizeLine := Nat.le_trans (shown_le d p e1 h2) h3
    have hsh : shownD d = p.shown := by
      unfold shownD
      rw [e1]
    rw [hsh] at ho
    have dp := ha.toDp st.sub e1
    obtain ⟨as, rd⟩ := Dp.reads I p a u dp ru
    have fin : ∀ h' tk t, (∀ b o, s.heap.get? b = some o → h'.get? b = some o) → EP X pins σ Q (.str p.shown t) { s with heap := h', toks := tk } := fun h' tk t hk =>
      ⟨.str p.shown, H, I.kept hk, ⟨_, rfl⟩, ans st k (.str _) ho⟩
    cases dp with
    | non =>
      cases ru
      exact PySem.P.repr_of_none (by simpa [PyData.shown] using fin s.heap _ _ fun _ _ e => e)
    | bl b =>
      cases ru
      exact PySem.P.repr_of_bool (by simpa [PyData.shown] using fin s.heap _ _ fun _ _ e => e)
    | int i =>
      obtain ⟨t, rfl⟩ := ru
      have hi : i.natAbs.log2 < 1920 := by
        have := showable_of d _ e1 h2
        simpa [PyData.showable] using this
      exact PySem.P.repr_of_int hi (by simpa [PyData.shown] using fin s.heap _ _ fun _ _ e => e)
    | str x =>
      obtain ⟨t, rfl⟩ := ru
      exact PySem.P.repr_of_str (by simpa [PyData.shown] using fin s.heap _ _ fun _ _ e => e) (by simpa [PyData.shown] using hz)
    | lst hs hd =>
      cases ru
      exact repr_of_reads' rd (showable_of d _ e1 h2) (PyData.noDict_hsm (PyData.hasDict_of_canLay _ c1)) hg (by omega) (fun _ _ e => e) (fun h' t tk hk => fin h' tk t hk) hz
    | tup hs hd =>
      cases ru
      exact repr_of_reads' rd (showable_of d _ e1 h2) (PyData.noDict_hsm (PyData.hasDict_of_canLay _ c1)) hg (by omega) (fun _ _ e => e) (fun h' t tk hk => fin h' tk t hk) hz
  · exact ho.elim
end
end DL

/-! DL3: what the slots hold, and calls of defs where nothing is being written out (no guard). -/
namespace DL
open PySem PySem.Spec PyProof.Rows L2

/-! ### slots -/
/-- what a slot holds: nothing that is told, data, a list of its own, a dict of its own (keys ints and texts, or tuples of them) -/
inductive Sl where
  | no
  | val (d : D)
  | own (xs : List D)
  | lat (a : Addr) (xs : List D)
  | dk (kvs : List (Key × D))
  | dt (kvs : List (List Key × D))
abbrev En := List Sl
def Sl.isOwn : Sl → Bool
  | .own _ | .lat _ _ | .dk _ | .dt _ => true
  | _ => false
abbrev IsKV {κ : Type} (K : PySem.W.Frag) (mg : Str → Option Value) (F : Hp) : List (κ × V) → List (κ × D) → Prop := Paired fun p q => p.1 = q.1 ∧ Is K mg F p.2 q.2
theorem IsKV.mono {κ : Type} {K : PySem.W.Frag} {mg : Str → Option Value} {F F' : Hp} (e : Same F F') {ws : List (κ × V)} {kvs : List (κ × D)} (h : IsKV K mg F ws kvs) : IsKV K mg F' ws kvs :=
  Paired.mapP h fun _ _ ⟨a, b⟩ => ⟨a, b.mono e⟩
structure Mine (J : GJ) (pr F : Hp) (p : Addr) : Prop where
  f : F p = none
  q : pr p = none
  m : ¬ J.mt p
structure IsAt (K : PySem.W.Frag) (mg : Str → Option Value) (F : Hp) (p a : Addr) (vs : List V) (xs : List D) : Prop where
  ia : IsA K mg F vs xs
  eq : p = a
theorem IsAt.mono {K : PySem.W.Frag} {mg : Str → Option Value} {F F' : Hp} {p a : Addr} {vs : List V} {xs : List D} (h : IsAt K mg F p a vs xs) (e : Same F F') : IsAt K mg F' p a vs xs := ⟨h.ia.mono e, h.eq⟩
def SlOk (K : PySem.W.Frag) (mg : Str → Option Value) (J : GJ) (pr F H : Hp) (o : Option V) : Sl → Prop
  | .no => True
  | .val d => ∃ v, o = some v ∧ Is K mg F v d
  | .own xs => ∃ p vs, o = some (.ref p) ∧ H p = some (.lst vs) ∧ IsA K mg F vs xs ∧ Mine J pr F p
  | .lat a xs => ∃ p vs, o = some (.ref p) ∧ H p = some (.lst vs) ∧ IsAt K mg F p a vs xs ∧ Mine J pr F p
  | .dk kvs => ∃ p ws, o = some (.ref p) ∧ H p = some (.dK ws) ∧ IsKV K mg F ws kvs ∧ Mine J pr F p
  | .dt kvs => ∃ p ws, o = some (.ref p) ∧ H p = some (.dT ws) ∧ IsKV K mg F ws kvs ∧ Mine J pr F p
structure Rep (K : PySem.W.Frag) (mg : Str → Option Value) (J : GJ) (pr : Hp) (env : En) (σ : L2.St) (F H : Hp) : Prop where
  st : St8 J pr F H
  len : env.length = σ.length
  sl : ∀ (i : Nat) (s : Sl) (o : Option V), env[i]? = some s → σ[i]? = some o → SlOk K mg J pr F H o s
  dis : ∀ (i j : Nat) (s t : Sl), i ≠ j → env[i]? = some s → env[j]? = some t → s.isOwn = true → t.isOwn = true → σ[i]? ≠ σ[j]?
section
variable {K : PySem.W.Frag} {mg : Str → Option Value} {J : GJ} {pr F H F' H' : Hp} {env : En} {σ : L2.St} {o : Option V} {s : Sl}
theorem SlOk.stp (a : St8 J pr F H) (t : Stp J pr F H F' H') (h : SlOk K mg J pr F H o s) : SlOk K mg J pr F' H' o s := by
  cases s with
  | no => trivial
  | val d =>
    obtain ⟨v, e, i⟩ := h
    exact ⟨v, e, i.mono t.ff⟩
  | own xs =>
    obtain ⟨p, vs, e, h1, i, m⟩ := h
    exact ⟨p, vs, e, t.hh p _ m.m nt_lst h1, i.mono t.ff, t.nf p _ nt_lst h1 m.f, m.q, m.m⟩
  | lat a0 xs =>
    obtain ⟨p, vs, e, h1, i, m⟩ := h
    exact ⟨p, vs, e, t.hh p _ m.m nt_lst h1, i.mono t.ff, t.nf p _ nt_lst h1 m.f, m.q, m.m⟩
  | dk kvs =>
    obtain ⟨p, vs, e, h1, i, m⟩ := h
    exact ⟨p, vs, e, t.hh p _ m.m nt_dK h1, i.mono t.ff, t.nf p _ nt_dK h1 m.f, m.q, m.m⟩
  | dt kvs =>
    obtain ⟨p, vs, e, h1, i, m⟩ := h
    exact ⟨p, vs, e, t.hh p _ m.m nt_dT h1, i.mono t.ff, t.nf p _ nt_dT h1 m.f, m.q, m.m⟩
theorem Rep.stp (R : Rep K mg J pr env σ F H) (t : Stp J pr F H F' H') : Rep K mg J pr env σ F' H' :=
  ⟨t.st, R.len, fun i s o e1 e2 => (R.sl i s o e1 e2).stp R.st t, R.dis⟩
theorem Rep.at (R : Rep K mg J pr env σ F H) {i : Nat} (e : env[i]? = some s) : ∃ o, σ[i]? = some o ∧ SlOk K mg J pr F H o s := by
  have hi : i < σ.length := by
    rw [← R.len]
    exact (List.getElem?_eq_some_iff.mp e).1
  exact ⟨σ[i], List.getElem?_eq_getElem hi, R.sl i s _ e (List.getElem?_eq_getElem hi)⟩
/-- the address of an owned slot is nobody else's -/
theorem Rep.alone (R : Rep K mg J pr env σ F H) {i j : Nat} {t : Sl} {p : Addr} (ne : i ≠ j) (e : env[i]? = some s) (hs : s.isOwn = true) (es : σ[i]? = some (some (.ref p))) (ej : env[j]? = some t) (ht : t.isOwn = true) {q : Addr} (eq : σ[j]? = some (some (.ref q))) : q ≠ p := fun z => by
  subst z
  exact R.dis i j s t ne e ej hs ht (es.trans eq.symm)
/-- a slot's own object changes (σ stays): to another content of the same slot -/
theorem Rep.write (R : Rep K mg J pr env σ F H) {i : Nat} {p : Addr} {u : HO} {s' : Sl} (e : env[i]? = some s) (hs : s.isOwn = true) (es : σ[i]? = some (some (.ref p))) (m : Mine J pr F p)
    (new : SlOk K mg J pr F (upd H p u) (some (.ref p)) s') : Rep K mg J pr (env.set i s') σ F (upd H p u) := by
  have hi : i < env.length := (List.getElem?_eq_some_iff.mp e).1
  have hx : ∀ φ, H p ≠ some (.ext φ) := fun φ z => by
    have h := R.sl i s _ e es
    cases s with
    | no => cases hs
    | val d => cases hs
    | own xs =>
      obtain ⟨q, vs, eo, h1, _⟩ := h
      cases eo
      rw [h1] at z
      cases z
    | lat a0 xs =>
      obtain ⟨q, vs, eo, h1, _⟩ := h
      cases eo
      rw [h1] at z
      cases z
    | dk kvs =>
      obtain ⟨q, vs, eo, h1, _⟩ := h
      cases eo
      rw [h1] at z
      cases z
    | dt kvs =>
      obtain ⟨q, vs, eo, h1, _⟩ := h
      cases eo
      rw [h1] at z
      cases z
  refine ⟨R.st.write m.f m.q m.m hx, by rw [List.length_set]; exact R.len, fun j t o e1 e2 => ?_, fun j k t t' ne e1 e2 ht ht' => ?_⟩
  · by_cases hj : i = j
    · subst hj
      rw [List.getElem?_set_self hi] at e1
      cases e1
      rw [es] at e2
      cases e2
      exact new
    · rw [List.getElem?_set_ne hj] at e1
      have h := R.sl j t o e1 e2
      cases t with
      | no => trivial
      | val d => exact h
      | own xs =>
        obtain ⟨q, vs, eo, h1, a, m'⟩ := h
        exact ⟨q, vs, eo, by rw [upd_ne (R.alone hj e hs es e1 rfl (by rw [e2, eo]))]; exact h1, a, m'⟩
      | lat a0 xs =>
        obtain ⟨q, vs, eo, h1, a, m'⟩ := h
        exact ⟨q, vs, eo, by rw [upd_ne (R.alone hj e hs es e1 rfl (by rw [e2, eo]))]; exact h1, a, m'⟩
      | dk kvs =>
        obtain ⟨q, vs, eo, h1, a, m'⟩ := h
        exact ⟨q, vs, eo, by rw [upd_ne (R.alone hj e hs es e1 rfl (by rw [e2, eo]))]; exact h1, a, m'⟩
      | dt kvs =>
        obtain ⟨q, vs, eo, h1, a, m'⟩ := h
        exact ⟨q, vs, eo, by rw [upd_ne (R.alone hj e hs es e1 rfl (by rw [e2, eo]))]; exact h1, a, m'⟩
  · have own : ∀ {j : Nat} {t : Sl}, (env.set i s')[j]? = some t → t.isOwn = true → ∃ t0, env[j]? = some t0 ∧ t0.isOwn = true := fun {j t} ej ht => by
      by_cases hj : i = j
      · subst hj
        exact ⟨s, e, hs⟩
      · rw [List.getElem?_set_ne hj] at ej
        exact ⟨t, ej, ht⟩
    obtain ⟨t0, f1, f2⟩ := own e1 ht
    obtain ⟨t1, g1, g2⟩ := own e2 ht'
    exact R.dis j k t0 t1 ne f1 g1 f2 g2
/-- a slot's own list is laid down for good -/
theorem Rep.freeze (R : Rep K mg J pr env σ F H) {i : Nat} {xs : List D} (e : env[i]? = some (.own xs)) : ∃ p F', σ[i]? = some (some (.ref p)) ∧ Same F F' ∧ Is K mg F' (.ref p) (.lst xs) ∧ Rep K mg J pr (env.set i (.val (.lst xs))) σ F' H := by
  obtain ⟨o, eo, p, vs, rfl, h1, a, m⟩ := R.at e
  have hi : i < env.length := (List.getElem?_eq_some_iff.mp e).1
  have sm : Same F (upd F p (.lst vs)) := same_upd' m.f
  have new : Is K mg (upd F p (.lst vs)) (.ref p) (.lst xs) := .lst upd_same (a.mono sm)
  refine ⟨p, upd F p (.lst vs), eo, sm, new, R.st.freeze h1 m.f m.q m.m nt_lst, by rw [List.length_set]; exact R.len, fun j t o e1 e2 => ?_, fun j k t t' ne e1 e2 ht ht' => ?_⟩
  · by_cases hj : i = j
    · subst hj
      rw [List.getElem?_set_self hi] at e1
      cases e1
      rw [eo] at e2
      cases e2
      exact ⟨_, rfl, new⟩
    · rw [List.getElem?_set_ne hj] at e1
      have h := R.sl j t o e1 e2
      cases t with
      | no => trivial
      | val d =>
        obtain ⟨v, ev, iv⟩ := h
        exact ⟨v, ev, iv.mono sm⟩
      | own xs =>
        obtain ⟨q, vs, eq, h1, a, m'⟩ := h
        exact ⟨q, vs, eq, h1, a.mono sm, by rw [upd_ne (R.alone hj e rfl eo e1 rfl (by rw [e2, eq]))]; exact m'.f, m'.q, m'.m⟩
      | lat a0 xs =>
        obtain ⟨q, vs, eq, h1, a, m'⟩ := h
        exact ⟨q, vs, eq, h1, a.mono sm, by rw [upd_ne (R.alone hj e rfl eo e1 rfl (by rw [e2, eq]))]; exact m'.f, m'.q, m'.m⟩
      | dk kvs =>
        obtain ⟨q, vs, eq, h1, a, m'⟩ := h
        exact ⟨q, vs, eq, h1, a.mono sm, by rw [upd_ne (R.alone hj e rfl eo e1 rfl (by rw [e2, eq]))]; exact m'.f, m'.q, m'.m⟩
      | dt kvs =>
        obtain ⟨q, vs, eq, h1, a, m'⟩ := h
        exact ⟨q, vs, eq, h1, a.mono sm, by rw [upd_ne (R.alone hj e rfl eo e1 rfl (by rw [e2, eq]))]; exact m'.f, m'.q, m'.m⟩
  · have own : ∀ {j : Nat} {t : Sl}, (env.set i (.val (.lst xs)))[j]? = some t → t.isOwn = true → env[j]? = some t := fun {j t} ej ht => by
      by_cases hj : i = j
      · subst hj
        rw [List.getElem?_set_self hi] at ej
        cases ej
        cases ht
      · rw [List.getElem?_set_ne hj] at ej
        exact ej
    exact R.dis j k t t' ne (own e1 ht) (own e2 ht') ht ht'
/-- a slot is stored -/
theorem Rep.store (R : Rep K mg J pr env σ F H) {i : Nat} {v : V} {d : D} (h : Is K mg F v d) : Rep K mg J pr (env.set i (.val d)) (σ.set i (some v)) F H := by
  refine ⟨R.st, by rw [List.length_set, List.length_set]; exact R.len, fun j t o e1 e2 => ?_, fun j k t t' ne e1 e2 ht ht' => ?_⟩
  · by_cases hj : i = j
    · subst hj
      obtain ⟨hl, e1⟩ := List.getElem?_eq_some_iff.mp e1
      obtain ⟨hl', e2⟩ := List.getElem?_eq_some_iff.mp e2
      simp only [List.getElem_set_self] at e1 e2
      subst e1 e2
      exact ⟨v, rfl, h⟩
    · rw [List.getElem?_set_ne hj] at e1 e2
      exact R.sl j t o e1 e2
  · have own : ∀ {j : Nat} {t : Sl}, (env.set i (.val d))[j]? = some t → t.isOwn = true → i ≠ j ∧ env[j]? = some t := fun {j t} ej ht => by
      by_cases hj : i = j
      · subst hj
        obtain ⟨hl, ej⟩ := List.getElem?_eq_some_iff.mp ej
        simp only [List.getElem_set_self] at ej
        subst ej
        cases ht
      · rw [List.getElem?_set_ne hj] at ej
        exact ⟨hj, ej⟩
    obtain ⟨n1, f1⟩ := own e1 ht
    obtain ⟨n2, f2⟩ := own e2 ht'
    rw [List.getElem?_set_ne n1, List.getElem?_set_ne n2]
    exact R.dis j k t t' ne f1 f2 ht ht'
/-- a slot is given an object just made, its own -/
theorem Rep.storeOwn (R : Rep K mg J pr env σ F H) {i : Nat} {p : Addr} {u : HO} {s' : Sl} (n : H p = none) (hs' : s'.isOwn = true) (new : SlOk K mg J pr F (upd H p u) (some (.ref p)) s') :
    Rep K mg J pr (env.set i s') (σ.set i (some (.ref p))) F (upd H p u) := by
  have t := R.st.made (o := u) n
  have R' := R.stp t
  have apart : ∀ {j : Nat} {t : Sl} {o : Option V}, env[j]? = some t → t.isOwn = true → σ[j]? = some o → o ≠ some (.ref p) := fun {j t o} e1 ht e2 z => by
    subst z
    have h := R.sl j t _ e1 e2
    cases t with
    | no => cases ht
    | val d => cases ht
    | own xs =>
      obtain ⟨q, vs, eq, h1, _⟩ := h
      cases eq
      rw [n] at h1
      cases h1
    | lat a0 xs =>
      obtain ⟨q, vs, eq, h1, _⟩ := h
      cases eq
      rw [n] at h1
      cases h1
    | dk xs =>
      obtain ⟨q, vs, eq, h1, _⟩ := h
      cases eq
      rw [n] at h1
      cases h1
    | dt xs =>
      obtain ⟨q, vs, eq, h1, _⟩ := h
      cases eq
      rw [n] at h1
      cases h1
  refine ⟨t.st, by rw [List.length_set, List.length_set]; exact R.len, fun j t o e1 e2 => ?_, fun j k t t' ne e1 e2 ht ht' => ?_⟩
  · by_cases hj : i = j
    · subst hj
      obtain ⟨hl, e1⟩ := List.getElem?_eq_some_iff.mp e1
      obtain ⟨hl', e2⟩ := List.getElem?_eq_some_iff.mp e2
      simp only [List.getElem_set_self] at e1 e2
      subst e1 e2
      exact new
    · rw [List.getElem?_set_ne hj] at e1 e2
      exact R'.sl j t o e1 e2
  · have here : ∀ {j : Nat} {t : Sl}, (env.set i s')[j]? = some t → i = j → (σ.set i (some (V.ref p)))[j]? = some (some (.ref p)) := fun {j t} ej hj => by
      subst hj
      obtain ⟨hl, _⟩ := List.getElem?_eq_some_iff.mp ej
      rw [List.length_set] at hl
      exact List.getElem?_set_self (by rw [← R.len]; exact hl)
    have there : ∀ {j : Nat} {t : Sl}, (env.set i s')[j]? = some t → t.isOwn = true → i ≠ j → (σ.set i (some (V.ref p)))[j]? = σ[j]? ∧ env[j]? = some t ∧ ∃ o, σ[j]? = some o ∧ o ≠ some (.ref p) := fun {j t} ej ht hj => by
      rw [List.getElem?_set_ne hj] at ej
      obtain ⟨o, eo, _⟩ := R.at ej
      exact ⟨List.getElem?_set_ne hj, ej, o, eo, apart ej ht eo⟩
    by_cases hj : i = j
    · have hk : i ≠ k := fun z => ne (hj.symm.trans z)
      rw [here e1 hj]
      obtain ⟨f1, f2, o, f3, f4⟩ := there e2 ht' hk
      rw [f1, f3]
      exact fun z => f4 (Option.some.inj z).symm
    · obtain ⟨f1, f2, o, f3, f4⟩ := there e1 ht hj
      by_cases hk : i = k
      · rw [here e2 hk, f1, f3]
        exact fun z => f4 (Option.some.inj z)
      · obtain ⟨g1, g2, _⟩ := there e2 ht' hk
        rw [f1, g1]
        exact R.dis j k t t' ne f2 g2 ht ht'
end

/-! ### defs, called where no object is being written out -/
/-- room for k calls deep; g: and no object is being written out -/
structure Rm (g : Bool) (k : Nat) (A : Around) : Prop where
  rm : Room k A
  gd : g = true → A.guards = some []
theorem Rm.mono {g : Bool} {j k : Nat} {A : Around} (r : Rm g k A) (h : j ≤ k) : Rm g j A := ⟨r.rm.mono h, r.gd⟩
theorem Rm.deeper {g : Bool} {k : Nat} {A : Around} (r : Rm g (k + 1) A) (env : Env) : Rm g k (A.deeper env) := ⟨r.rm.deeper env, r.gd⟩
structure FnG (g : Bool) (P : Program) (w : World) (K : PySem.W.Frag) (mg : Str → Option Value) (base : Heap) (CX : CXT) (k : Nat) (f : Addr) (fd : FuncData) (ps : List Str) (sp : Sp) : Prop where
  len : ∀ vs H Q E, sp vs H Q E → vs.length = ps.length
  run : ∀ (A : Around) (outer : List Env) (s : Shared) (H : Hp) (ar : Args) (us : List Value) (vs : List V) (Q : VK) (E : XK), Rm g k A → Env0 P w K mg base A outer s H → BindsTo s fd ar (ps.zip us) → Vals vs us → sp vs H Q E →
    codeAny (model P w) A (.call (.ref f) ar) (CR CX outer P w H s Q E) s
section
variable {g : Bool} {P : Program} {w : World} {K : PySem.W.Frag} {mg : Str → Option Value} {base : Heap} {CX : CXT}
theorem FnG.mono {j k : Nat} {f : Addr} {fd : FuncData} {ps : List Str} {sp : Sp} (F : FnG g P w K mg base CX j f fd ps sp) (h : j ≤ k) : FnG g P w K mg base CX k f fd ps sp :=
  ⟨F.len, fun A o s H ar us vs Q E r => F.run A o s H ar us vs Q E (r.mono h)⟩
theorem fnG_lk {k : Nat} {f : Addr} {x qual : Str} {st : Stmt} {N ps : List Str} {sp : Sp} {oc kV doc pm cd ct : Value} {od an : Option Addr} {osl : Array (Option Value)} (lk : K.lookup f = some ⟨oc, od, .func (PySem.W.fnOf x qual (defArgs st) (defBody st) (defScope st) .none kV doc pm an cd ct), osl⟩) (hcd : PySem.W.codeIn K cd qual = true)
    (S : FnScope N ps (defScope st)) (len : ∀ vs H Q E, sp vs H Q E → vs.length = ps.length)
    (hb : ∀ (A : Around) (outer : List Env) (s : Shared) (H : Hp) (vs : List V) (Q : VK) (E : XK), Rm g k (A.deeper (envOfC qual (defScope st) s.heap.objs.size f cd)) → sp vs H Q E →
      ∃ t, PSs (cxOf CX P w K mg base N qual (defScope st) f cd A outer s H E) (defBody st) t ∧ t { nx := fun _ H' => Q .non H', rt := Q } (start N vs) H) : FnG g P w K mg base CX (k + 1) f (PySem.W.fnOf x qual (defArgs st) (defBody st) (defScope st) .none kV doc pm an cd ct) ps sp := by
  refine ⟨len, fun A outer s H ar us vs Q E hr e0 hbd r hsp => ?_⟩
  have hl := len _ _ _ _ hsp
  have up : ∀ b o, base.get? b = some o → s.heap.get? b = some o := fun b o e => (e0.bs b o e).1
  have KX : K.In s.heap := e0.mod.kin.keeps up
  have kinds : ∀ y ∈ ps.zip us, (defScope st).names.lookup y.1 = some .local ∨ ((defScope st).names.lookup y.1 = some .cell ∧ ((cellsFrom (s.heap.objs.size + 1) (defScope st).names []).lookup y.1).isSome = true) := by
    rintro ⟨n, v⟩ hy
    exact (S.par n (List.of_mem_zip hy).1).elim .inl fun q => .inr ⟨q, PySem.W.cellsFrom_some _ _ _ (.inl q)⟩
  refine codeAny_call_function hr.rm.depth (KX _ _ lk) rfl S.co S.gen rfl (PySem.W.codeRec_of KX hcd) (hbd _ _ _ _ (wpAny_newFunctionEnv_cells S.kind kinds fun env he s1 z => ?_))
  subst he
  refine ⟨(e0.mod.nolimit.keeps up).keeps z.toInCall.keep, codeAny_func ?_⟩
  obtain ⟨t, ht, hq⟩ := hb A outer s H vs Q E (hr.deeper _) hsp
  have I := inv_start (CX := CX) (E := E) (cd := cd) S hr.rm.hd e0 hl r z
  refine wpAny_mono (ht.run [] s1 (start N vs) H _ I hq) (fun fl s' hs => ?_) fun _ _ hs => hs
  cases fl with
  | ret u =>
    obtain ⟨v, _, H', J, rv, q⟩ := hs
    exact ⟨v, H', J.os, J.bare, J.base, J.hok, rv, q⟩
  | next =>
    obtain ⟨_, H', J, q⟩ := hs
    exact ⟨.non, H', J.os, J.bare, J.base, J.hok, rfl, q⟩
  | brk =>
    obtain ⟨_, _, _, q⟩ := hs
    exact q.elim
  | cont =>
    obtain ⟨_, _, _, q⟩ := hs
    exact q.elim
theorem fnG_of {k : Nat} {f : Addr} {x qual : Str} {st : Stmt} {fd : FuncData} {N ps : List Str} {sp : Sp} (Fu : L2.Fun K x qual st f fd) (S : FnScope N ps (defScope st)) (len : ∀ vs H Q E, sp vs H Q E → vs.length = ps.length)
    (hb : ∀ (cd : Value) (A : Around) (outer : List Env) (s : Shared) (H : Hp) (vs : List V) (Q : VK) (E : XK), Rm g k (A.deeper (envOfC qual (defScope st) s.heap.objs.size f cd)) → sp vs H Q E →
      ∃ t, PSs (cxOf CX P w K mg base N qual (defScope st) f cd A outer s H E) (defBody st) t ∧ t { nx := fun _ H' => Q .non H', rt := Q } (start N vs) H) : FnG g P w K mg base CX (k + 1) f fd ps sp := by
  obtain ⟨oc, od, kV, doc, pm, an, cd, ct, osl, rfl, lk, hcd⟩ := Fu.ex
  exact fnG_lk lk hcd S len fun A outer s H vs Q E => hb cd A outer s H vs Q E
end
section
variable {g : Bool} {X : Cx} {CX : CXT} {k : Nat} {f : Addr} {fd : FuncData} {ps : List Str} {sp : Sp} {E : XK} {x : Str} {p pos : Pos} {e : Expr} {es : List Expr} {t : TA}
theorem run_fnG {pins : List (Addr × Obj)} {σ : L2.St} {H : Hp} {s : Shared} {Q : VK} {us : List Value} {vs : List V} (F : FnG g X.prog X.w X.K X.mg X.base CX k f fd ps sp) (hr : Rm g k X.A) (hb : Binds X.K fd ps []) (hx : Passes CX X E)
    (I : L2.Inv X pins σ H s) (r : Vals vs us) (h : sp vs H Q E) : wpAny (model X.prog X.w) X.A (call (.ref f) us) (EP X pins σ Q) X.xe s := by
  have hl : us.length = ps.length := r.length.symm.trans (F.len _ _ _ _ h)
  have hbs := hb s us I.kIn (by rw [List.append_nil]; exact hl)
  rw [List.append_nil] at hbs
  refine wpAny_call (codeAny_mono (F.run X.A X.stack s H ⟨us, []⟩ us vs Q E hr I.env0 hbs r h) fun z s' hq => ?_)
  rcases z with e | fl
  · exact hx pins σ H s e s' I hq
  · cases fl with
    | ret u => exact I.after hq
    | next => exact hq.elim
    | brk => exact hq.elim
    | cont => exact hq.elim
theorem pe_callG (F : FnG g X.prog X.w X.K X.mg X.base CX k f fd ps sp) (hr : Rm g k X.A) (hg : Gl X x) (hm : X.mg x = some (.ref f)) (hk : PySem.W.keepIn X.K (.ref f) = true) (hb : Binds X.K fd ps []) (hx : Passes CX X E) (ha : PA X (e :: es) t)
    (hdb : (x == ("__debug__" : Str)) = false := by decide) (he : starEach (e :: es) X.env = (false, eval e X.env) :: starEach es X.env := by rfl) (hpl : (backTo pos (starEach es X.env)).any (·.1) = false := by rfl) :
    PE X (.Call (.Name x p) (e :: es) [] pos) (fun σ H Q => t σ H fun vs H1 => sp vs H1 Q E) :=
  ⟨fun pins s σ H Q I h => wpAny_Call_Name_kw (ld_glob I hg hm (PySem.W.callWith_K (h₀ := X.base) I.ok.mod.kin hk (thn (ha.run pos pins s σ H _ I h) fun us s1 ⟨vs, H1, I1, r, q⟩ => ⟨I1.kIn, run_fnG F hr hb hx I1 r q⟩) he hpl) hdb)⟩
theorem pe_callG0 (F : FnG g X.prog X.w X.K X.mg X.base CX k f fd ps sp) (hr : Rm g k X.A) (hg : Gl X x) (hm : X.mg x = some (.ref f)) (hk : PySem.W.keepIn X.K (.ref f) = true) (hb : Binds X.K fd ps []) (hx : Passes CX X E)
    (hdb : (x == ("__debug__" : Str)) = false := by decide) : PE X (.Call (.Name x p) [] [] pos) (fun σ H Q => sp [] H Q E) :=
  ⟨fun pins s σ H Q I h => wpAny_Call_Name_kw (ld_glob I hg hm (PySem.W.callWith_K0 I.kIn hk (run_fnG (us := []) F hr hb hx I .nil h)) hdb)⟩
end
end DL

/-! DL4: expressions by data. -/
namespace DL
open PySem PySem.Spec PyProof.Rows L2

/-- an argument: data, or the thing that a slot owns, as it stands -/
inductive Ar where
  | d (d : D)
  | b (i : Nat)
abbrev WE := En → (D → En → Prop) → Prop
abbrev WB := En → (Ar → En → Prop) → Prop
abbrev WA := En → (List Ar → En → Prop) → Prop
abbrev WT := En → (Bool → En → Prop) → Prop
abbrev WO := En → (Option Int → En → Prop) → Prop

@[simp] def res1 (env : En) : Ar → Option D
  | .d d => some d
  | .b i => match env[i]? with
    | some (.val d) => some d
    | some (.own xs) => some (.lst xs)
    | some (.lat _ xs) => some (.lst xs)
    | _ => none
@[simp] def resA (env : En) : List Ar → Option (List D)
  | [] => some []
  | a :: as => match res1 env a, resA env as with
    | some d, some ds => some (d :: ds)
    | _, _ => none
@[simp] def reals : List Ar → Option (List D)
  | [] => some []
  | .d d :: as => (reals as).map (d :: ·)
  | .b _ :: _ => none

section
variable (K : PySem.W.Frag) (mg : Str → Option Value) (J : GJ) (pr : Hp)
def IsR (F : Hp) (σ : L2.St) (v : V) : Ar → Prop
  | .d d => Is K mg F v d
  | .b i => σ[i]? = some (some v)
abbrev IsRA (F : Hp) (σ : L2.St) : List V → List Ar → Prop := Paired (IsR K mg F σ)
def tE (w : WE) : TE := fun σ H Q => ∃ (env : En) (F : Hp) (q : D → En → Prop), Rep K mg J pr env σ F H ∧ w env q ∧
  ∀ d env' v F' H', Rep K mg J pr env' σ F' H' → Same F F' → Is K mg F' v d → q d env' → Q v H'
def tBo (w : WB) : TE := fun σ H Q => ∃ (env : En) (F : Hp) (q : Ar → En → Prop), Rep K mg J pr env σ F H ∧ w env q ∧
  ∀ a env' v F' H', Rep K mg J pr env' σ F' H' → Same F F' → IsR K mg F' σ v a → q a env' → Q v H'
def tAr (w : WA) : TA := fun σ H Q => ∃ (env : En) (F : Hp) (q : List Ar → En → Prop), Rep K mg J pr env σ F H ∧ w env q ∧
  ∀ as env' vs F' H', Rep K mg J pr env' σ F' H' → Same F F' → IsRA K mg F' σ vs as → q as env' → Q vs H'
def tTs (w : WT) : TT := fun σ H Q => ∃ (env : En) (F : Hp) (q : Bool → En → Prop), Rep K mg J pr env σ F H ∧ w env q ∧
  ∀ b env' F' H', Rep K mg J pr env' σ F' H' → Same F F' → q b env' → Q b H'
def tOp' (w : WO) : TO := fun σ H Q => ∃ (env : En) (F : Hp) (q : Option Int → En → Prop), Rep K mg J pr env σ F H ∧ w env q ∧
  ∀ o env' F' H', Rep K mg J pr env' σ F' H' → Same F F' → q o env' → Q o H'
end
structure DE (X : Cx) (J : GJ) (e : Expr) (w : WE) : Prop where
  run : ∀ pr, PE X e (tE X.K X.mg J pr w)
structure DB (X : Cx) (J : GJ) (e : Expr) (w : WB) : Prop where
  run : ∀ pr, PE X e (tBo X.K X.mg J pr w)
structure DA (X : Cx) (J : GJ) (es : List Expr) (w : WA) : Prop where
  run : ∀ pr, PA X es (tAr X.K X.mg J pr w)
structure DT (X : Cx) (J : GJ) (e : Expr) (w : WT) : Prop where
  run : ∀ pr, PT X e (tTs X.K X.mg J pr w)
structure DW (X : Cx) (J : GJ) (e : Expr) (w : WT) : Prop where
  run : ∀ pr, PW X e (tTs X.K X.mg J pr w)
structure DO (X : Cx) (J : GJ) (e : Option Expr) (w : WO) : Prop where
  run : ∀ pr, PO X e (tOp' X.K X.mg J pr w)

section
variable {X : Cx}
theorem PE.imp {e : Expr} {t t' : TE} (h : PE X e t) (i : ∀ σ H Q, t' σ H Q → t σ H Q) : PE X e t' := ⟨fun pins s σ H Q I q => h.run pins s σ H Q I (i _ _ _ q)⟩
theorem PT.imp {e : Expr} {t t' : TT} (h : PT X e t) (i : ∀ σ H Q, t' σ H Q → t σ H Q) : PT X e t' := ⟨fun pins s σ H Q I q => h.run pins s σ H Q I (i _ _ _ q)⟩
theorem PW.imp {e : Expr} {t t' : TT} (h : PW X e t) (i : ∀ σ H Q, t' σ H Q → t σ H Q) : PW X e t' := ⟨fun wh pins s σ H Q I q => h.run wh pins s σ H Q I (i _ _ _ q)⟩
theorem PA.imp {es : List Expr} {t t' : TA} (h : PA X es t) (i : ∀ σ H Q, t' σ H Q → t σ H Q) : PA X es t' := ⟨fun p pins s σ H Q I q => h.run p pins s σ H Q I (i _ _ _ q)⟩
theorem PO.imp {e : Option Expr} {t t' : TO} (h : PO X e t) (i : ∀ σ H Q, t' σ H Q → t σ H Q) : PO X e t' := ⟨fun pins s σ H Q I q => h.run pins s σ H Q I (i _ _ _ q)⟩
end

section
variable {K : PySem.W.Frag} {mg : Str → Option Value} {J : GJ} {pr F F' H : Hp} {σ : L2.St} {env : En} {v : V} {vs : List V}
theorem IsR.mono (s : Same F F') {a : Ar} (h : IsR K mg F σ v a) : IsR K mg F' σ v a := by
  cases a with
  | d d => exact Is.mono s h
  | b i => exact h
theorem IsRA.mono (s : Same F F') {as : List Ar} (h : IsRA K mg F σ vs as) : IsRA K mg F' σ vs as := Paired.mapP h fun _ _ q => q.mono s
theorem IsR.res (R : Rep K mg J pr env σ F H) {a : Ar} {d : D} (h : IsR K mg F σ v a) (e : res1 env a = some d) : IsB K mg F H v d := by
  cases a with
  | d x =>
    cases e
    exact .inl h
  | b i =>
    simp only [res1] at e
    split at e
    · rename_i x hx
      cases e
      obtain ⟨o, eo, z, rfl, hz⟩ := R.at hx
      have q := eo.symm.trans (show σ[i]? = some (some v) from h)
      cases q
      exact .inl hz
    · rename_i xs hx
      cases e
      obtain ⟨o, eo, p, vs, rfl, h1, h2, _⟩ := R.at hx
      have q := eo.symm.trans (show σ[i]? = some (some v) from h)
      cases q
      exact .inr ⟨p, vs, xs, rfl, rfl, h1, h2⟩
    · rename_i a0 xs hx
      cases e
      obtain ⟨o, eo, p, vs, rfl, h1, h2, _⟩ := R.at hx
      have q := eo.symm.trans (show σ[i]? = some (some v) from h)
      cases q
      exact .inr ⟨p, vs, xs, rfl, rfl, h1, h2.ia⟩
    · cases e
theorem IsRA.res (R : Rep K mg J pr env σ F H) : ∀ {vs : List V} {as : List Ar} {ds : List D}, IsRA K mg F σ vs as → resA env as = some ds → IsBA K mg F H vs ds
  | _, _, _, .nil, e => by
    cases e
    exact .nil
  | _, _, _, .cons h t, e => by
    unfold resA at e
    split at e
    · rename_i d ds e1 e2
      cases e
      exact .cons (h.res R e1) (IsRA.res R t e2)
    · cases e
theorem IsRA.real : ∀ {vs : List V} {as : List Ar} {ds : List D}, IsRA K mg F σ vs as → reals as = some ds → IsA K mg F vs ds
  | _, _, _, .nil, e => by
    cases e
    exact .nil
  | _, .d x :: _, _, .cons h t, e => by
    simp only [reals, Option.map_eq_some_iff] at e
    obtain ⟨ds, e1, rfl⟩ := e
    exact .cons h (IsRA.real t e1)
  | _, .b i :: _, _, .cons h t, e => by cases e
/-- an operation of the data, at what is known -/
theorem rP_of (R : Rep K mg J pr env σ F H) {O : Prim} {as : List Ar} {ds : List D} {q : D → En → Prop} {Q : VK} (ia : IsRA K mg F σ vs as) (e : resA env as = some ds) (ho : O ds fun d => q d env)
    (k : ∀ d env' z F' H', Rep K mg J pr env' σ F' H' → Same F F' → Is K mg F' z d → q d env' → Q z H') : rP K mg J O vs H Q :=
  ⟨pr, F, ds, fun d => q d env, R.st, ia.res R e, ho, fun d z F' H' t i hq => k d env z F' H' (R.stp t) t.ff i hq⟩
end

/-! ### names, constants -/
@[simp] def wVar (i : Nat) : WE := fun env q => match env[i]? with
  | some (.val d) => q d env
  | some (.own xs) => q (.lst xs) (env.set i (.val (.lst xs)))
  | _ => False
@[simp] def wB (i : Nat) : WB := fun env q => (match env[i]? with
  | some (.val _) | some (.own _) | some (.lat _ _) | some (.dk _) | some (.dt _) => True
  | _ => False) ∧ q (.b i) env
@[simp] def wOf (w : WE) : WB := fun env q => w env fun d e => q (.d d) e
@[simp] def wC (d : D) : WE := fun env q => q d env
section
variable {X : Cx} {J : GJ} {x : Str} {pos : Pos}
theorem de_var (i : Nat) (h : PE X (.Name x pos) (tVar i)) : DE X J (.Name x pos) (wVar i) := by
  refine ⟨fun pr => PE.imp h fun σ H Q ⟨env, F, q, R, hw, k⟩ => ?_⟩
  unfold wVar at hw
  split at hw
  · rename_i d hd
    obtain ⟨o, eo, v, rfl, hv⟩ := R.at hd
    exact ⟨v, eo, k d env v F H R (Same.refl _) hv hw⟩
  · rename_i xs hd
    obtain ⟨p, F', eo, sm, hp, R'⟩ := R.freeze hd
    exact ⟨_, eo, k _ _ _ F' H R' sm hp hw⟩
  · exact hw.elim
theorem db_var (i : Nat) (h : PE X (.Name x pos) (tVar i)) : DB X J (.Name x pos) (wB i) := by
  refine ⟨fun pr => PE.imp h fun σ H Q ⟨env, F, q, R, hw, k⟩ => ?_⟩
  have fin : ∀ v : V, σ[i]? = some (some v) → ∃ v, σ[i]? = some (some v) ∧ Q v H := fun v e => ⟨v, e, k (.b i) env v F H R (Same.refl _) e hw.2⟩
  have h1 := hw.1
  split at h1
  · rename_i d hd
    obtain ⟨o, eo, v, rfl, hv⟩ := R.at hd
    exact fin v eo
  · rename_i d hd
    obtain ⟨o, eo, p, vs, rfl, hv⟩ := R.at hd
    exact fin _ eo
  · rename_i d hd
    obtain ⟨o, eo, p, vs, rfl, hv⟩ := R.at hd
    exact fin _ eo
  · rename_i d hd
    obtain ⟨o, eo, p, vs, rfl, hv⟩ := R.at hd
    exact fin _ eo
  · rename_i d hd
    obtain ⟨o, eo, p, vs, rfl, hv⟩ := R.at hd
    exact fin _ eo
  · exact h1.elim
theorem db_of {e : Expr} {w : WE} (h : DE X J e w) : DB X J e (wOf w) :=
  ⟨fun pr => PE.imp (h.run pr) fun σ H Q ⟨env, F, q, R, hw, k⟩ => ⟨env, F, _, R, hw, fun d env' v F' H' R' s i hq => k (.d d) env' v F' H' R' s i hq⟩⟩
theorem de_c {e : Expr} {v : V} {d : D} (h : PE X e (tC v)) (i : ∀ F, Is X.K X.mg F v d) : DE X J e (wC d) :=
  ⟨fun pr => PE.imp h fun σ H Q ⟨env, F, q, R, hw, k⟩ => k d env v F H R (Same.refl _) (i F) hw⟩
theorem de_int {i j} : DE X J (.Constant (.int i) j pos) (wC (.int i)) := de_c pe_int fun _ => .int _
theorem de_bl {i j} : DE X J (.Constant (.bool i) j pos) (wC (.bl i)) := de_c pe_bl fun _ => .bl _
theorem de_non {j} : DE X J (.Constant .none j pos) (wC .non) := de_c pe_non fun _ => .non
theorem de_str {i j} : DE X J (.Constant (.str i) j pos) (wC (.str i)) := de_c pe_str fun _ => .str _
/-- a module's constant -/
theorem de_gi {i : Int} (hg : Gl X x) (hm : ∃ t, X.mg x = some (.int i t)) (hd : (x == ("__debug__" : Str)) = false := by decide) : DE X J (.Name x pos) (wC (.int i)) :=
  let ⟨t, h⟩ := hm
  de_c (pe_glob (v := .int i) hg h ⟨t, rfl⟩ hd) fun _ => .int _
/-- a built-in class as a value -/
theorem de_ty {T : String} (hg : Gl X x) (hm : X.mg x = none) (hv : bootBuiltins x = some (.type T)) (hn : x ≠ "__name__" := by decide) (hd : (x == ("__debug__" : Str)) = false := by decide) : DE X J (.Name x pos) (wC (.ty T)) :=
  de_c (pe_bltn (v := .ty T) hg hm hv rfl hn hd) fun _ => .ty _
/-- an own class as a value -/
theorem de_cls {C : Addr} (hg : Gl X x) (hm : X.mg x = some (.ref C)) (hd : (x == ("__debug__" : Str)) = false := by decide) : DE X J (.Name x pos) (wC (.cls x)) :=
  de_c (pe_glob (v := .ref C) hg hm rfl hd) fun _ => .cls hm
end

/-! ### operations -/
@[simp] def wFin (O : Prim) (as : List Ar) (env : En) (q : D → En → Prop) : Prop := ∃ ds, resA env as = some ds ∧ O ds fun d => q d env
@[simp] def w2 (O : Prim) (wa wb : WB) : WE := fun env q => wa env fun x e1 => wb e1 fun y e2 => wFin O [x, y] e2 q
@[simp] def w1 (O : Prim) (wa : WB) : WE := fun env q => wa env fun x e1 => wFin O [x] e1 q
@[simp] def wPr (O : Prim) (wa : WA) : WE := fun env q => wa env fun as e1 => wFin O as e1 q
@[simp] def wNil : WA := fun env q => q [] env
@[simp] def wCons (w : WB) (wr : WA) : WA := fun env q => w env fun a e1 => wr e1 fun as e2 => q (a :: as) e2
section
variable {X : Cx} {J : GJ} {a b e : Expr} {es : List Expr} {wa wb : WB} {w : WA} {O : Prim} {pos : Pos}
theorem two_of {pr : Hp} {σ : L2.St} {H : Hp} {Q : VK} (h : tE X.K X.mg J pr (w2 O wa wb) σ H Q) : tBo X.K X.mg J pr wa σ H fun x H1 => tBo X.K X.mg J pr wb σ H1 fun y H2 => rP X.K X.mg J O [x, y] H2 Q := by
  obtain ⟨env, F, q, R, hw, k⟩ := h
  refine ⟨env, F, _, R, hw, fun x e1 v F1 H1 R1 s1 i1 h1 => ⟨e1, F1, _, R1, h1, fun y e2 u F2 H2 R2 s2 i2 ⟨ds, h2, h3⟩ => ?_⟩⟩
  exact rP_of R2 (.cons (i1.mono s2) (.cons i2 .nil)) h2 h3 fun d env' z F' H' R' s' i' hq => k d env' z F' H' R' ((s1.trans s2).trans s') i' hq
theorem one_of {pr : Hp} {σ : L2.St} {H : Hp} {Q : VK} (h : tE X.K X.mg J pr (w1 O wa) σ H Q) : tBo X.K X.mg J pr wa σ H fun x H1 => rP X.K X.mg J O [x] H1 Q := by
  obtain ⟨env, F, q, R, hw, k⟩ := h
  refine ⟨env, F, _, R, hw, fun x e1 v F1 H1 R1 s1 i1 ⟨ds, h2, h3⟩ => ?_⟩
  exact rP_of R1 (.cons i1 .nil) h2 h3 fun d env' z F' H' R' s' i' hq => k d env' z F' H' R' (s1.trans s') i' hq
theorem args_of {pr : Hp} {σ : L2.St} {H : Hp} {Q : VK} (h : tE X.K X.mg J pr (wPr O w) σ H Q) : tAr X.K X.mg J pr w σ H fun xs H1 => rP X.K X.mg J O xs H1 Q := by
  obtain ⟨env, F, q, R, hw, k⟩ := h
  refine ⟨env, F, _, R, hw, fun as e1 vs F1 H1 R1 s1 i1 ⟨ds, h2, h3⟩ => ?_⟩
  exact rP_of R1 i1 h2 h3 fun d env' z F' H' R' s' i' hq => k d env' z F' H' R' (s1.trans s') i' hq
theorem de_op {op : Operator} (ho : OpD X J (binaryOp op) O) (ha : DB X J a wa) (hb : DB X J b wb) : DE X J (.BinOp a op b pos) (w2 O wa wb) :=
  ⟨fun pr => PE.imp (pe_op ho (ha.run pr) (hb.run pr)) fun _ _ _ h => two_of h⟩
theorem de_un {op : UnaryOp} (ho : UnD X J (unaryOp op) O) (ha : DB X J a wa) : DE X J (.UnaryOp op a pos) (w1 O wa) :=
  ⟨fun pr => PE.imp (pe_un ho (ha.run pr)) fun _ _ _ h => one_of h⟩
theorem de_cmp {op : CmpOp} (ho : OpD X J (compareOp op) O) (ha : DB X J a wa) (hb : DB X J b wb) (hm : behindInMarks op b = false) : DE X J (.Compare a [op] [b] pos) (w2 O wa wb) :=
  ⟨fun pr => PE.imp (pe_cmpR ho (ha.run pr) (hb.run pr) hm) fun _ _ _ h => two_of h⟩
theorem de_ix (ho : IxD X J O) (ha : DB X J a wa) (hb : DB X J b wb) (hs : PlainIx b) : DE X J (.Subscript a b pos) (w2 O wa wb) :=
  ⟨fun pr => PE.imp (pe_ix ho (ha.run pr) (hb.run pr) hs) fun _ _ _ h => two_of h⟩
theorem da_nil : DA X J [] wNil := ⟨fun pr => PA.imp pa_nil fun σ H Q ⟨env, F, q, R, hw, k⟩ => k [] env [] F H R (Same.refl _) .nil hw⟩
theorem da_cons (ha : DB X J e wa) (hr : DA X J es w) (hs : starEach (e :: es) X.env = (false, eval e X.env) :: starEach es X.env := by rfl) : DA X J (e :: es) (wCons wa w) :=
  ⟨fun pr => PA.imp (pa_cons (ha.run pr) (hr.run pr) hs) fun σ H Q ⟨env, F, q, R, hw, k⟩ => ⟨env, F, _, R, hw, fun x e1 v F1 H1 R1 s1 i1 h1 => ⟨e1, F1, _, R1, h1, fun as e2 vs F2 H2 R2 s2 i2 h2 => k _ e2 _ F2 H2 R2 (s1.trans s2) (.cons (i1.mono s2) i2) h2⟩⟩⟩
theorem de_callB {x : Str} {id : String} {p : Pos} (hc : CallD X J (.builtin id) O) (hg : Gl X x) (hm : X.mg x = none) (hv : bootBuiltins x = some (.builtin id)) (ha : DA X J (e :: es) w) (hn : x ≠ "__name__" := by decide) (hdb : (x == ("__debug__" : Str)) = false := by decide)
    (he : starEach (e :: es) X.env = (false, eval e X.env) :: starEach es X.env := by rfl) (hpl : (backTo pos (starEach es X.env)).any (·.1) = false := by rfl) : DE X J (.Call (.Name x p) (e :: es) [] pos) (wPr O w) :=
  ⟨fun pr => PE.imp (pe_callB hc hg hm hv (ha.run pr) hn hdb he hpl) fun _ _ _ h => args_of h⟩
theorem de_callTy {x : Str} {T : String} {p : Pos} (hc : CallD X J (.type T) O) (hg : Gl X x) (hm : X.mg x = none) (hv : bootBuiltins x = some (.type T)) (ha : DA X J (e :: es) w) (hn : x ≠ "__name__" := by decide) (hdb : (x == ("__debug__" : Str)) = false := by decide)
    (he : starEach (e :: es) X.env = (false, eval e X.env) :: starEach es X.env := by rfl) (hpl : (backTo pos (starEach es X.env)).any (·.1) = false := by rfl) : DE X J (.Call (.Name x p) (e :: es) [] pos) (wPr O w) :=
  ⟨fun pr => PE.imp (pe_callTy hc hg hm hv (ha.run pr) hn hdb he hpl) fun _ _ _ h => args_of h⟩
end

/-! ### displays, slices, fields -/
@[simp] def wTup (w : WA) : WE := fun env q => w env fun as e1 => ∃ ds, reals as = some ds ∧ ds.length ≤ 1000 ∧ q (.tup ds) e1
@[simp] def wLst (w : WA) : WE := fun env q => w env fun as e1 => ∃ ds, reals as = some ds ∧ ds.length ≤ 1000 ∧ q (.lst ds) e1
@[simp] def wONone : WO := fun env q => q none env
@[simp] def wOSome (w : WE) : WO := fun env q => w env fun d e1 => ∃ i, d = .int i ∧ q (some i) e1
@[simp] def wSl (O : PrimS) (w : WB) (wl wh : WO) : WE := fun env q => w env fun a e1 => wl e1 fun lo e2 => wh e2 fun hi e3 => ∃ d, res1 e3 a = some d ∧ O d lo hi fun d' => q d' e3
@[simp] def wFld (c f : Str) (w : WE) : WE := fun env q => w env fun d e1 => ∃ fs v, d = .ins c fs ∧ fs.lookup f = some v ∧ q v e1
section
variable {X : Cx} {J : GJ} {e : Expr} {es : List Expr} {w : WA} {we : WE} {wb : WB} {wl wh : WO} {pos p2 : Pos}
theorem Rep.laid {K : PySem.W.Frag} {mg : Str → Option Value} {pr F H : Hp} {env : En} {σ : L2.St} (R : Rep K mg J pr env σ F H) {p : Addr} {o : HO} (n : H p = none) (ho : NT o := by first | exact nt_lst | exact nt_tup) : Rep K mg J pr env σ (upd F p o) (upd H p o) ∧ Same F (upd F p o) :=
  ⟨R.stp (R.st.laid n ho), same_upd' (R.st.sub.free n)⟩
theorem de_tup {k} (h : DA X J es w) : DE X J (.Tuple es k pos) (wTup w) := by
  refine ⟨fun pr => PE.imp (pe_tup (h.run pr)) fun σ H Q ⟨env, F, q, R, hw, k⟩ => ⟨env, F, _, R, hw, fun as e1 vs F1 H1 R1 s1 i1 ⟨ds, h1, hl, hq⟩ => ?_⟩⟩
  have ia := i1.real h1
  refine ⟨by rw [ia.length, sizeLine_eq]; omega, fun p n => ?_⟩
  obtain ⟨R2, s2⟩ := R1.laid (o := .tup vs) n
  exact k _ e1 _ _ _ R2 (s1.trans s2) (.tup (SqT.of upd_same) (ia.mono s2)) hq
theorem de_lst (h : DA X J es w) : DE X J (.List es pos) (wLst w) := by
  refine ⟨fun pr => PE.imp (pe_lst (h.run pr)) fun σ H Q ⟨env, F, q, R, hw, k⟩ => ⟨env, F, _, R, hw, fun as e1 vs F1 H1 R1 s1 i1 ⟨ds, h1, hl, hq⟩ => ?_⟩⟩
  have ia := i1.real h1
  refine ⟨by rw [ia.length, sizeLine_eq]; omega, fun p n => ?_⟩
  obtain ⟨R2, s2⟩ := R1.laid (o := .lst vs) n
  exact k _ e1 _ _ _ R2 (s1.trans s2) (.lst upd_same (ia.mono s2)) hq
theorem do_none : DO X J none wONone := ⟨fun pr => PO.imp po_none fun σ H Q ⟨env, F, q, R, hw, k⟩ => k none env F H R (Same.refl _) hw⟩
theorem do_some (h : DE X J e we) : DO X J (some e) (wOSome we) := by
  refine ⟨fun pr => PO.imp (po_some (h.run pr)) fun σ H Q ⟨env, F, q, R, hw, k⟩ => ⟨env, F, _, R, hw, fun d e1 v F1 H1 R1 s1 i1 ⟨i, ei, hq⟩ => ?_⟩⟩
  subst ei
  exact ⟨i, i1.int_inv, k _ e1 F1 H1 R1 s1 hq⟩
theorem de_sl {lo hi : Option Expr} {O : PrimS} (hr : SlD X J O) (he : DB X J e wb) (hl : DO X J lo wl) (hh : DO X J hi wh) : DE X J (.Subscript e (.Slice lo hi none p2) pos) (wSl O wb wl wh) := by
  refine ⟨fun pr => PE.imp (pe_slice hr (he.run pr) (hl.run pr) (hh.run pr)) fun σ H Q ⟨env, F, q, R, hw, k⟩ => ?_⟩
  refine ⟨env, F, _, R, hw, fun a e1 v F1 H1 R1 s1 i1 h1 => ⟨e1, F1, _, R1, h1, fun l e2 F2 H2 R2 s2 h2 => ⟨e2, F2, _, R2, h2, fun u e3 F3 H3 R3 s3 ⟨d, h3, ho⟩ => ?_⟩⟩⟩
  exact ⟨pr, F3, d, _, R3.st, ((i1.mono s2).mono s3).res R3 h3, ho, fun d' z F' H' t i hq => k d' e3 z F' H' (R3.stp t) (((s1.trans s2).trans s3).trans t.ff) i hq⟩
theorem de_fld {c f : Str} (hc : ∀ C, X.mg c = some (.ref C) → Cls X.K C ∧ NoAttr X.K C f) (h : DE X J e we) (hb : attributeBase e f X.env (eval e X.env) = eval e X.env) : DE X J (.Attribute e f pos) (wFld c f we) := by
  refine ⟨fun pr => PE.imp (pe_fld (h.run pr) hb) fun σ H Q ⟨env, F, q, R, hw, k⟩ => ⟨env, F, _, R, hw, fun d e1 v F1 H1 R1 s1 i1 ⟨fs, d', hd, hl, hq⟩ => ?_⟩⟩
  subst hd
  obtain ⟨a, C, dx, gs, rfl, hm, h1, h2⟩ := i1.ins_inv
  obtain ⟨c1, c2⟩ := hc C hm
  obtain ⟨z, hz, iz⟩ := h2.lookup hl
  exact ⟨a, C, dx, gs, z, rfl, R1.st.sub _ _ h1, c1, c2, hz, k _ e1 z F1 H1 R1 s1 iz hq⟩
end

/-! ### tests, and, or, not -/
@[simp] def wTB (w : WE) : WT := fun env q => w env fun d e1 => ∃ b, d = .bl b ∧ q b e1
@[simp] def wTNot (w : WT) : WT := fun env q => w env fun b e1 => q (!b) e1
@[simp] def wTAnd (w u : WT) : WT := fun env q => w env fun b e1 => if b = true then u e1 q else q false e1
@[simp] def wTOr (w u : WT) : WT := fun env q => w env fun b e1 => if b = true then q true e1 else u e1 q
@[simp] def wIf (t : WT) (wa wb : WE) : WE := fun env q => t env fun b e1 => if b = true then wa e1 q else wb e1 q
@[simp] def wAnd (wa wb : WE) : WE := fun env q => wa env fun d e1 => ∃ b, d = .bl b ∧ if b = true then wb e1 q else q (.bl false) e1
@[simp] def wOr (wa wb : WE) : WE := fun env q => wa env fun d e1 => ∃ b, d = .bl b ∧ if b = true then q (.bl true) e1 else wb e1 q
@[simp] def wNot (wa : WE) : WE := fun env q => wa env fun d e1 => ∃ b, d = .bl b ∧ q (.bl (!b)) e1
@[simp] def wChain (O O' : Prim) (wa wb wc : WB) : WE := fun env q => wa env fun x e1 => wb e1 fun y e2 => ∃ ds, resA e2 [x, y] = some ds ∧ O ds fun d => ∃ k, d = .bl k ∧
  if k = true then wc e2 fun z e3 => wFin O' [y, z] e3 q else q (.bl false) e2
section
variable {X : Cx} {J : GJ} {a b c e : Expr} {es : List Expr} {wa wb wc : WB} {we wf : WE} {wt wu : WT} {O O' : Prim} {pos : Pos}
theorem dt_val (h : DE X J e we) (he : ∀ whole, isTrue e X.env whole = (do let v ← whole; standAt e.pos; holding [v] (truthy v)) := by intro _; rfl) : DT X J e (wTB we) := by
  refine ⟨fun pr => PT.imp (pt_val (h.run pr) he) fun σ H Q ⟨env, F, q, R, hw, k⟩ => ⟨env, F, _, R, hw, fun d e1 v F1 H1 R1 s1 i1 ⟨b, hd, hq⟩ => ?_⟩⟩
  subst hd
  exact ⟨b, i1.bl_inv, k b e1 F1 H1 R1 s1 hq⟩
theorem dt_cmp {op : CmpOp} (ho : OpD X J (compareOp op) O) (ha : DB X J a wa) (hb : DB X J b wb) (hm : behindInMarks op b = false) : DT X J (.Compare a [op] [b] pos) (wTB (w2 O wa wb)) := by
  refine ⟨fun pr => PT.imp (pt_cmpR ho (ha.run pr) (hb.run pr) hm) fun σ H Q ⟨env, F, q, R, hw, k⟩ => ?_⟩
  show tOp _ _ _ σ H _
  refine two_of ⟨env, F, _, R, hw, fun d e1 v F1 H1 R1 s1 i1 ⟨b, hd, hq⟩ => ?_⟩
  subst hd
  exact ⟨b, i1.bl_inv, k b e1 F1 H1 R1 s1 hq⟩
theorem dt_not (h : DT X J a wt) : DT X J (.UnaryOp .Not a pos) (wTNot wt) :=
  ⟨fun pr => PT.imp (pt_not (h.run pr)) fun σ H Q ⟨env, F, q, R, hw, k⟩ => ⟨env, F, _, R, hw, fun b e1 F1 H1 R1 s1 hq => k _ e1 F1 H1 R1 s1 hq⟩⟩
theorem dw_and1 (h : DT X J a wt) : DW X J (.BoolOp .And [a] pos) wt := ⟨fun pr => pw_and1 (h.run pr)⟩
theorem dw_or1 (h : DT X J a wt) : DW X J (.BoolOp .Or [a] pos) wt := ⟨fun pr => pw_or1 (h.run pr)⟩
theorem dw_and (h : DT X J a wt) (h' : DW X J (.BoolOp .And (b :: es) pos) wu) : DW X J (.BoolOp .And (a :: b :: es) pos) (wTAnd wt wu) := by
  refine ⟨fun pr => PW.imp (pw_and (h.run pr) (h'.run pr)) fun σ H Q ⟨env, F, q, R, hw, k⟩ => ⟨env, F, _, R, hw, fun b e1 F1 H1 R1 s1 hq => ?_⟩⟩
  cases b with
  | true => exact ⟨e1, F1, q, R1, hq, fun b' e2 F2 H2 R2 s2 hq' => k b' e2 F2 H2 R2 (s1.trans s2) hq'⟩
  | false => exact k false e1 F1 H1 R1 s1 hq
theorem dw_or (h : DT X J a wt) (h' : DW X J (.BoolOp .Or (b :: es) pos) wu) : DW X J (.BoolOp .Or (a :: b :: es) pos) (wTOr wt wu) := by
  refine ⟨fun pr => PW.imp (pw_or (h.run pr) (h'.run pr)) fun σ H Q ⟨env, F, q, R, hw, k⟩ => ⟨env, F, _, R, hw, fun b e1 F1 H1 R1 s1 hq => ?_⟩⟩
  cases b with
  | true => exact k true e1 F1 H1 R1 s1 hq
  | false => exact ⟨e1, F1, q, R1, hq, fun b' e2 F2 H2 R2 s2 hq' => k b' e2 F2 H2 R2 (s1.trans s2) hq'⟩
theorem dt_of (h : DW X J e wt) : DT X J e wt := ⟨fun pr => (h.run pr).pt⟩
theorem de_if (hc : DT X J c wt) (ha : DE X J a we) (hb : DE X J b wf) : DE X J (.IfExp c a b pos) (wIf wt we wf) := by
  refine ⟨fun pr => PE.imp (pe_ifExp (hc.run pr) (ha.run pr) (hb.run pr)) fun σ H Q ⟨env, F, q, R, hw, k⟩ => ⟨env, F, _, R, hw, fun b e1 F1 H1 R1 s1 hq => ?_⟩⟩
  cases b with
  | true => exact ⟨e1, F1, q, R1, hq, fun d e2 v F2 H2 R2 s2 i hq' => k d e2 v F2 H2 R2 (s1.trans s2) i hq'⟩
  | false => exact ⟨e1, F1, q, R1, hq, fun d e2 v F2 H2 R2 s2 i hq' => k d e2 v F2 H2 R2 (s1.trans s2) i hq'⟩
theorem de_one {op} (h : DE X J a we) : DE X J (.BoolOp op [a] pos) we := ⟨fun pr => pe_one (h.run pr)⟩
theorem de_and (ha : DE X J a we) (hb : DE X J (.BoolOp .And (b :: es) pos) wf) : DE X J (.BoolOp .And (a :: b :: es) pos) (wAnd we wf) := by
  refine ⟨fun pr => PE.imp (pe_and (ha.run pr) (hb.run pr)) fun σ H Q ⟨env, F, q, R, hw, k⟩ => ⟨env, F, _, R, hw, fun d e1 v F1 H1 R1 s1 i1 ⟨b, hd, hq⟩ => ?_⟩⟩
  subst hd
  refine ⟨b, i1.bl_inv, ?_⟩
  cases b with
  | true => exact ⟨e1, F1, q, R1, hq, fun d e2 v F2 H2 R2 s2 i hq' => k d e2 v F2 H2 R2 (s1.trans s2) i hq'⟩
  | false => exact k _ e1 _ F1 H1 R1 s1 (.bl _) hq
theorem de_or (ha : DE X J a we) (hb : DE X J (.BoolOp .Or (b :: es) pos) wf) : DE X J (.BoolOp .Or (a :: b :: es) pos) (wOr we wf) := by
  refine ⟨fun pr => PE.imp (pe_or (ha.run pr) (hb.run pr)) fun σ H Q ⟨env, F, q, R, hw, k⟩ => ⟨env, F, _, R, hw, fun d e1 v F1 H1 R1 s1 i1 ⟨b, hd, hq⟩ => ?_⟩⟩
  subst hd
  refine ⟨b, i1.bl_inv, ?_⟩
  cases b with
  | true => exact k _ e1 _ F1 H1 R1 s1 (.bl _) hq
  | false => exact ⟨e1, F1, q, R1, hq, fun d e2 v F2 H2 R2 s2 i hq' => k d e2 v F2 H2 R2 (s1.trans s2) i hq'⟩
theorem de_not (ha : DE X J a we) : DE X J (.UnaryOp .Not a pos) (wNot we) := by
  refine ⟨fun pr => PE.imp (pe_not (ha.run pr)) fun σ H Q ⟨env, F, q, R, hw, k⟩ => ⟨env, F, _, R, hw, fun d e1 v F1 H1 R1 s1 i1 ⟨b, hd, hq⟩ => ?_⟩⟩
  subst hd
  exact ⟨b, i1.bl_inv, k _ e1 _ F1 H1 R1 s1 (.bl _) hq⟩
theorem chain_of {pr : Hp} {σ : L2.St} {H : Hp} {Q : VK} (h : tE X.K X.mg J pr (wChain O O' wa wb wc) σ H Q) :
    tChain (fun x y H Q => rP X.K X.mg J O [x, y] H Q) (fun x y H Q => rP X.K X.mg J O' [x, y] H Q) (tBo X.K X.mg J pr wa) (tBo X.K X.mg J pr wb) (tBo X.K X.mg J pr wc) σ H Q := by
  obtain ⟨env, F, q, R, hw, k⟩ := h
  refine ⟨env, F, _, R, hw, fun x e1 v F1 H1 R1 s1 i1 h1 => ⟨e1, F1, _, R1, h1, fun y e2 u F2 H2 R2 s2 i2 ⟨ds, h2, h3⟩ => ?_⟩⟩
  refine ⟨pr, F2, ds, _, R2.st, IsRA.res R2 (.cons (i1.mono s2) (.cons i2 .nil)) h2, h3, fun d z F' H' t i ⟨c, hd, hq⟩ => ?_⟩
  subst hd
  refine ⟨c, i.bl_inv, ?_⟩
  have R' := R2.stp t
  cases c with
  | true =>
    refine ⟨e2, F', _, R', hq, fun z e3 w F3 H3 R3 s3 i3 ⟨ds', h4, h5⟩ => ?_⟩
    exact rP_of R3 (.cons ((i2.mono t.ff).mono s3) (.cons i3 .nil)) h4 h5 fun d env' z F' H' R' s' i' hq => k d env' z F' H' R' ((((s1.trans s2).trans t.ff).trans s3).trans s') i' hq
  | false => exact k _ e2 _ F' H' R' ((s1.trans s2).trans t.ff) (.bl _) hq
theorem de_chain {op op' : CmpOp} (ho : OpD X J (compareOp op) O) (ho' : OpD X J (compareOp op') O') (ha : DB X J a wa) (hb : DB X J b wb) (hc : DB X J c wc) (hm : lastMarks [op, op'] [b, c] = false := by with_unfolding_all rfl) :
    DE X J (.Compare a [op, op'] [b, c] pos) (wChain O O' wa wb wc) := ⟨fun pr => PE.imp (pe_chain ho ho' (ha.run pr) (hb.run pr) (hc.run pr) hm) fun _ _ _ h => chain_of h⟩
theorem dt_chain {op op' : CmpOp} (ho : OpD X J (compareOp op) O) (ho' : OpD X J (compareOp op') O') (ha : DB X J a wa) (hb : DB X J b wb) (hc : DB X J c wc) (hm : lastMarks [op, op'] [b, c] = false := by with_unfolding_all rfl) :
    DT X J (.Compare a [op, op'] [b, c] pos) (wTB (wChain O O' wa wb wc)) := by
  refine ⟨fun pr => PT.imp (pt_chain ho ho' (ha.run pr) (hb.run pr) (hc.run pr) hm) fun σ H Q ⟨env, F, q, R, hw, k⟩ => ?_⟩
  refine chain_of ⟨env, F, _, R, hw, fun d e1 v F1 H1 R1 s1 i1 ⟨b, hd, hq⟩ => ?_⟩
  subst hd
  exact ⟨b, i1.bl_inv, k b e1 F1 H1 R1 s1 hq⟩
end

/-! ### calls of defs -/
abbrev Spec := GJ → Prim
/-- a def's promise by data -/
def spD (K : PySem.W.Frag) (mg : Str → Option Value) (S : Spec) (n : Nat) : Sp := fun vs H Q _ => vs.length = n ∧ ∃ (J : GJ) (pr F : Hp) (ds : List D) (q : D → Prop), St8 J pr F H ∧ IsA K mg F vs ds ∧ S J ds q ∧
  ∀ d z F' H', Stp J pr F H F' H' → Is K mg F' z d → q d → Q z H'
structure CalG (g : Bool) (P : Program) (w : World) (K : PySem.W.Frag) (mg : Str → Option Value) (base : Heap) (k : Nat) (x : Str) (S : Spec) (n : Nat) : Prop where
  ex : ∃ (f : Addr) (fd : FuncData) (ps : List Str), FnG g P w K mg base L2.CX0 k f fd ps (spD K mg S n) ∧ mg x = some (.ref f) ∧ PySem.W.keepIn K (.ref f) = true ∧ Binds K fd ps []
@[simp] def wCall (J : GJ) (S : Spec) (n : Nat) (w : WA) : WE := fun env q => w env fun as e1 => ∃ ds, reals as = some ds ∧ ds.length = n ∧ S J ds fun d => q d e1
section
variable {g : Bool} {X : Cx} {J : GJ} {S : Spec} {n k j : Nat} {x : Str} {p pos : Pos} {e : Expr} {es : List Expr} {w : WA}
theorem de_call (c : CalG g X.prog X.w X.K X.mg X.base k x S n) (hr : Rm g j X.A) (hk : k ≤ j) (hg : Gl X x) (ha : DA X J (e :: es) w)
    (hdb : (x == ("__debug__" : Str)) = false := by decide) (he : starEach (e :: es) X.env = (false, eval e X.env) :: starEach es X.env := by rfl) (hpl : (backTo pos (starEach es X.env)).any (·.1) = false := by rfl) :
    DE X J (.Call (.Name x p) (e :: es) [] pos) (wCall J S n w) := by
  obtain ⟨f, fd, ps, F, hm, hkp, hb⟩ := c.ex
  refine ⟨fun pr => PE.imp (pe_callG F (hr.mono hk) hg hm hkp hb L2.pass0 (ha.run pr) hdb he hpl) fun σ H Q ⟨env, F, q, R, hw, k⟩ => ?_⟩
  refine ⟨env, F, _, R, hw, fun as e1 vs F1 H1 R1 s1 i1 ⟨ds, h1, hn, h2⟩ => ?_⟩
  have ia := i1.real h1
  -- what the caller's slots own, beside what others own
  let own : Hp := fun b => open Classical in if ∃ (i : Nat) (s : Sl), e1[i]? = some s ∧ s.isOwn = true ∧ σ[i]? = some (some (V.ref b)) then H1 b else pr b
  have hown : ∀ b, (∃ (i : Nat) (s : Sl), e1[i]? = some s ∧ s.isOwn = true ∧ σ[i]? = some (some (V.ref b))) → own b = H1 b := fun b h => if_pos h
  have hnot : ∀ b, ¬ (∃ (i : Nat) (s : Sl), e1[i]? = some s ∧ s.isOwn = true ∧ σ[i]? = some (some (V.ref b))) → own b = pr b := fun b h => if_neg h
  have mine : ∀ {b : Addr} {i : Nat} {s : Sl}, e1[i]? = some s → s.isOwn = true → σ[i]? = some (some (.ref b)) → Mine J pr F1 b ∧ ∃ o, H1 b = some o ∧ NT o := fun {b i s} h1 h2 h3 => by
    have h := R1.sl i s _ h1 h3
    cases s with
    | no => cases h2
    | val d => cases h2
    | own xs =>
      obtain ⟨p, vs, ep, hp, _, m⟩ := h
      cases ep
      exact ⟨m, _, hp, nt_lst⟩
    | lat a0 xs =>
      obtain ⟨p, vs, ep, hp, _, m⟩ := h
      cases ep
      exact ⟨m, _, hp, nt_lst⟩
    | dk xs =>
      obtain ⟨p, vs, ep, hp, _, m⟩ := h
      cases ep
      exact ⟨m, _, hp, nt_dK⟩
    | dt xs =>
      obtain ⟨p, vs, ep, hp, _, m⟩ := h
      cases ep
      exact ⟨m, _, hp, nt_dT⟩
  have st : St8 J own F1 H1 := by
    refine ⟨R1.st.sub, fun b o hb => ?_, R1.st.inv, fun b m => ⟨(R1.st.mtF b m).1, ?_⟩, fun b o hb => ?_⟩
    · by_cases hx : ∃ (i : Nat) (s : Sl), e1[i]? = some s ∧ s.isOwn = true ∧ σ[i]? = some (some (V.ref b))
      · rw [hown b hx] at hb
        obtain ⟨i, s, a1, a2, a3⟩ := hx
        exact ⟨hb, (mine a1 a2 a3).1.f⟩
      · rw [hnot b hx] at hb
        exact R1.st.prk b o hb
    · have hx : ¬ ∃ (i : Nat) (s : Sl), e1[i]? = some s ∧ s.isOwn = true ∧ σ[i]? = some (some (V.ref b)) := fun ⟨i, s, a1, a2, a3⟩ => (mine a1 a2 a3).1.m m
      rw [hnot b hx]
      exact (R1.st.mtF b m).2
    · rcases hb with hb | hb
      · exact R1.st.nt b o (.inl hb)
      · by_cases hx : ∃ (i : Nat) (s : Sl), e1[i]? = some s ∧ s.isOwn = true ∧ σ[i]? = some (some (V.ref b))
        · rw [hown b hx] at hb
          obtain ⟨i, s, a1, a2, a3⟩ := hx
          obtain ⟨_, o', h1, h2⟩ := mine a1 a2 a3
          rw [h1] at hb
          cases hb
          exact h2
        · rw [hnot b hx] at hb
          exact R1.st.nt b o (.inr hb)
  refine ⟨by rw [ia.length]; exact hn, J, own, F1, ds, _, st, ia, h2, fun d z F' H' t i hq => ?_⟩
  have t' : Stp J pr F1 H1 F' H' := by
    refine ⟨⟨t.st.sub, fun b o hb => ?_, t.st.inv, fun b m => ⟨(t.st.mtF b m).1, (R1.st.mtF b m).2⟩, fun b o hb => hb.elim (fun hb => t.st.nt b o (.inl hb)) fun hb => R1.st.nt b o (.inr hb)⟩, t.ff, t.hh, t.nf⟩
    have hx : ¬ ∃ (i : Nat) (s : Sl), e1[i]? = some s ∧ s.isOwn = true ∧ σ[i]? = some (some (V.ref b)) := fun ⟨i, s, a1, a2, a3⟩ => by
      have m := (mine a1 a2 a3).1.q
      rw [hb] at m
      cases m
    have e := hnot b hx
    exact t.st.prk b o (e.trans hb)
  exact k d e1 z F' H' (R1.stp t') (s1.trans t.ff) i hq
end
end DL

/-! DL5: what is walked, targets, comprehensions. -/
namespace DL
open PySem PySem.Spec PyProof.Rows L2

/-! ### what is walked -/
structure ItOk (K : PySem.W.Frag) (mg : Str → Option Value) (J : GJ) (pr : Hp) (It : L2.It) (F0 : Hp) (xs : List D) : Prop where
  go : ∀ i F H, Same F0 F → Same F H → i < xs.length → It.go i H
  yld : ∀ i F H x H', Same F0 F → St8 J pr F H → i < xs.length → It.yld i H x H' → ∃ F' d, xs[i]? = some d ∧ Stp J pr F H F' H' ∧ Is K mg F' x d
  stop : ∀ i F H, Same F0 F → Same F H → xs.length ≤ i → It.stop i H
abbrev WI := En → (List D → En → Prop) → Prop
def tI (K : PySem.W.Frag) (mg : Str → Option Value) (J : GJ) (w : WI) : TI := fun σ H R => ∃ (pr : Hp) (env : En) (F : Hp) (r : List D → En → Prop), Rep K mg J pr env σ F H ∧ w env r ∧
  ∀ It xs env' F' H', Rep K mg J pr env' σ F' H' → Same F F' → (∀ pr', ItOk K mg J pr' It F' xs) → r xs env' → R It H'
structure DI (X : Cx) (J : GJ) (tg iter : Expr) (w : WI) : Prop where
  run : PI X tg iter (tI X.K X.mg J w)
section
variable {K : PySem.W.Frag} {mg : Str → Option Value} {J : GJ} {pr : Hp}
theorem itOk_list {a : Addr} {F0 : Hp} {vs : List V} {xs : List D} (h : F0 a = some (.lst vs)) (ia : IsA K mg F0 vs xs) : ItOk K mg J pr (Itl K a) F0 xs := by
  refine ⟨fun i F H s1 s2 hi => ?_, fun i F H x H' s1 st hi hy => ?_, fun i F H s1 s2 hi => ?_⟩
  · obtain ⟨v, hv, _⟩ := ia.get (List.getElem?_eq_getElem hi)
    exact ⟨vs, v, SqL.of (s2 _ _ (s1 _ _ h)), hv⟩
  · obtain ⟨v, hv, iv⟩ := ia.get (List.getElem?_eq_getElem hi)
    obtain ⟨rfl, f⟩ := hy
    have e := f vs (SqL.of (st.sub _ _ (s1 _ _ h)))
    rw [hv] at e
    cases e
    exact ⟨F, _, List.getElem?_eq_getElem hi, Stp.refl st, iv.mono s1⟩
  · exact ⟨vs, SqL.of (s2 _ _ (s1 _ _ h)), by rw [ia.length]; exact hi⟩
theorem itOk_tup {a : Addr} {F0 : Hp} {vs : List V} {xs : List D} (h : SqT K F0 a vs) (ia : IsA K mg F0 vs xs) : ItOk K mg J pr (Itt K a) F0 xs := by
  refine ⟨fun i F H s1 s2 hi => ?_, fun i F H x H' s1 st hi hy => ?_, fun i F H s1 s2 hi => ?_⟩
  · obtain ⟨v, hv, _⟩ := ia.get (List.getElem?_eq_getElem hi)
    exact ⟨vs, v, same_seqT s2 (same_seqT s1 h), hv⟩
  · obtain ⟨v, hv, iv⟩ := ia.get (List.getElem?_eq_getElem hi)
    obtain ⟨rfl, f⟩ := hy
    have e := f vs (same_seqT st.sub (same_seqT s1 h))
    rw [hv] at e
    cases e
    exact ⟨F, _, List.getElem?_eq_getElem hi, Stp.refl st, iv.mono s1⟩
  · exact ⟨vs, same_seqT s2 (same_seqT s1 h), by rw [ia.length]; exact hi⟩
/-- lo, lo + c, .. (n of them) -/
def rgD (lo c : Int) (n : Nat) : List D := (List.range n).map fun i => D.int (lo + (i : Nat) * c)
theorem rgD_get {lo c : Int} {n i : Nat} (h : i < n) : (rgD lo c n)[i]? = some (.int (lo + (i : Nat) * c)) := by
  unfold rgD
  rw [List.getElem?_map, List.getElem?_range h]
  rfl
theorem rgD_length (lo c : Int) (n : Nat) : (rgD lo c n).length = n := by
  unfold rgD
  rw [List.length_map, List.length_range]
theorem itOk_rng {F0 : Hp} (lo : Int) (n : Nat) : ItOk K mg J pr (Itr lo n) F0 (rgD lo 1 n) := by
  refine ⟨fun i F H s1 s2 hi => ?_, fun i F H x H' s1 st hi hy => ?_, fun i F H s1 s2 hi => ?_⟩
  · rw [rgD_length] at hi
    exact hi
  · rw [rgD_length] at hi
    obtain ⟨rfl, rfl⟩ := hy
    refine ⟨F, _, rgD_get hi, Stp.refl st, ?_⟩
    rw [Int.mul_one]
    exact .int _
  · rw [rgD_length] at hi
    exact hi
theorem itOk_rngC {F0 : Hp} (lo c : Int) (n : Nat) : ItOk K mg J pr (Itc lo c n) F0 (rgD lo c n) := by
  refine ⟨fun i F H s1 s2 hi => ?_, fun i F H x H' s1 st hi hy => ?_, fun i F H s1 s2 hi => ?_⟩
  · rw [rgD_length] at hi
    exact hi
  · rw [rgD_length] at hi
    obtain ⟨rfl, rfl⟩ := hy
    exact ⟨F, _, rgD_get hi, Stp.refl st, .int _⟩
  · rw [rgD_length] at hi
    exact hi
end
/-- a list or a tuple -/
@[simp] def wIs (w : WE) : WI := fun env r => w env fun d e1 => match d with
  | .lst xs => r xs e1
  | .tup xs => r xs e1
  | _ => False
@[simp] def wR1 (w : WA) : WI := fun env r => w env fun as e1 => ∃ j : Int, reals as = some [.int j] ∧ (-(2 ^ 62) ≤ j ∧ j < 2 ^ 62) ∧ r (rgD 0 1 j.toNat) e1
@[simp] def wR2 (w : WA) : WI := fun env r => w env fun as e1 => ∃ i j : Int, reals as = some [.int i, .int j] ∧ (-(2 ^ 62) ≤ i ∧ i < 2 ^ 62 ∧ -(2 ^ 62) ≤ j ∧ j < 2 ^ 62) ∧ r (rgD i 1 (j - i).toNat) e1
@[simp] def wR3 (w : WA) : WI := fun env r => w env fun as e1 => ∃ (i j c : Int) (n : Nat), reals as = some [.int i, .int j, .int c] ∧ RgC i j c n ∧ r (rgD i c n) e1
section
variable {X : Cx} {J : GJ} {tg e a b c : Expr} {we : WE} {w : WA} {p pos : Pos}
theorem di_seq (h : DE X J e we) : DI X J tg e (wIs we) := by
  refine ⟨⟨fun pins s σ H R I ⟨pr, env, F, r, R0, hw, k⟩ => ?_⟩⟩
  refine thn ((h.run pr).run pins s σ H (fun v H1 => ∃ d env' F', Rep X.K X.mg J pr env' σ F' H1 ∧ Same F F' ∧ Is X.K X.mg F' v d ∧ (match d with
    | .lst xs => r xs env'
    | .tup xs => r xs env'
    | _ => False)) I ⟨env, F, _, R0, hw, fun d env' v F' H' R' s' i hq => ⟨d, env', F', R', s', i, hq⟩⟩) fun u s1 ⟨x, H1, I1, r1, d, env', F', R', s', i, hq⟩ => ?_
  cases d with
  | lst xs =>
    obtain ⟨p, vs, rfl, h1, ia⟩ := i.lst_inv
    cases r1
    obtain ⟨its, rv, hp, hz⟩ := I1.list (SqL.of (R'.st.sub _ _ h1))
    exact wpAny_pyIter_list hp.isList (pi_one (tk := s1.toks) I1 _ (turn_list _ _) ⟨_, Heap.get?_push_size _ rfl, rfl, rfl⟩ (k _ xs env' F' H1 R' s' (fun _ => itOk_list h1 ia) hq))
  | tup xs =>
    obtain ⟨p, vs, rfl, h1, ia⟩ := i.tup_inv
    cases r1
    obtain ⟨its, rv, hp, hz⟩ := I1.tuple (same_seqT R'.st.sub h1)
    exact wpAny_pyIter_tuple (show s1.heap.IsTuple p its.toArray from hp) (pi_one (tk := s1.toks) I1 _ (turn_tuple _ _) ⟨_, Heap.get?_push_size _ rfl, rfl, rfl⟩ (k _ xs env' F' H1 R' s' (fun _ => itOk_tup h1 ia) hq))
  | non => exact hq.elim
  | bl _ => exact hq.elim
  | int _ => exact hq.elim
  | str _ => exact hq.elim
  | ins _ _ => exact hq.elim
  | tk _ => exact hq.elim
  | ty _ => exact hq.elim
  | cls _ => exact hq.elim
theorem PI.imp {wi wi' : TI} (h : PI X tg e wi) (i : ∀ σ H R, wi' σ H R → wi σ H R) : PI X tg e wi' := ⟨fun pins s σ H R I q => h.run pins s σ H R I (i _ _ _ q)⟩
theorem ints1 {K : PySem.W.Frag} {mg : Str → Option Value} {F : Hp} {vs : List V} {i : Int} (h : IsA K mg F vs [.int i]) : vs = [.int i] := by
  obtain ⟨v, rfl, h1⟩ := h.one_inv
  rw [h1.int_inv]
theorem ints2 {K : PySem.W.Frag} {mg : Str → Option Value} {F : Hp} {vs : List V} {i j : Int} (h : IsA K mg F vs [.int i, .int j]) : vs = [.int i, .int j] := by
  obtain ⟨v, u, rfl, h1, h2⟩ := h.two_inv
  rw [h1.int_inv, h2.int_inv]
theorem ints3 {K : PySem.W.Frag} {mg : Str → Option Value} {F : Hp} {vs : List V} {i j k : Int} (h : IsA K mg F vs [.int i, .int j, .int k]) : vs = [.int i, .int j, .int k] := by
  obtain ⟨v, r, rfl, h1, t⟩ := h.cons_inv
  rw [h1.int_inv, ints2 t]
theorem di_r1 (hg : Gl X "range") (hm : X.mg "range" = none) (ha : DA X J [a] w) (hs : starEach [a] X.env = [(false, eval a X.env)] := by rfl) : DI X J tg (.Call (.Name "range" p) [a] [] pos) (wR1 w) := by
  refine ⟨⟨fun pins s σ H R I ⟨pr, env, F, r, R0, hw, k⟩ => (pi_range1 hg hm (ha.run pr) hs).run pins s σ H R I ⟨env, F, _, R0, hw, fun as e1 vs F1 H1 R1 s1 i1 ⟨j, hj, h1, h2⟩ => ?_⟩⟩⟩
  exact ⟨j, ints1 (i1.real hj), h1.1, h1.2, k _ _ e1 F1 H1 R1 s1 (fun _ => itOk_rng 0 _) h2⟩
theorem di_r2 (hg : Gl X "range") (hm : X.mg "range" = none) (ha : DA X J [a, b] w) (hs : starEach [a, b] X.env = [(false, eval a X.env), (false, eval b X.env)] := by rfl) (hs2 : starEach [b] X.env = [(false, eval b X.env)] := by rfl) :
    DI X J tg (.Call (.Name "range" p) [a, b] [] pos) (wR2 w) := by
  refine ⟨⟨fun pins s σ H R I ⟨pr, env, F, r, R0, hw, k⟩ => (pi_range2 hg hm (ha.run pr) hs hs2).run pins s σ H R I ⟨env, F, _, R0, hw, fun as e1 vs F1 H1 R1 s1 i1 ⟨i, j, hj, h1, h2⟩ => ?_⟩⟩⟩
  exact ⟨i, j, ints2 (i1.real hj), h1, k _ _ e1 F1 H1 R1 s1 (fun _ => itOk_rng i _) h2⟩
theorem di_r3 (hg : Gl X "range") (hm : X.mg "range" = none) (ha : DA X J [a, b, c] w) (hs : starEach [a, b, c] X.env = (false, eval a X.env) :: starEach [b, c] X.env := by rfl) (hpl : (backTo pos (starEach [b, c] X.env)).any (·.1) = false := by rfl) :
    DI X J tg (.Call (.Name "range" p) [a, b, c] [] pos) (wR3 w) := by
  refine ⟨⟨fun pins s σ H R I ⟨pr, env, F, r, R0, hw, k⟩ => (pi_range3 hg hm (ha.run pr) hs hpl).run pins s σ H R I ⟨env, F, _, R0, hw, fun as e1 vs F1 H1 R1 s1 i1 ⟨i, j, l, n, hj, h1, h2⟩ => ?_⟩⟩⟩
  exact ⟨i, j, l, n, ints3 (i1.real hj), h1, k _ _ e1 F1 H1 R1 s1 (fun _ => itOk_rngC i l n) h2⟩
end

/-! ### targets: names, tuples of names -/
abbrev WG := D → En → (En → Prop) → Prop
/-- a target stores data; no slot but those of vs changes -/
def tG (K : PySem.W.Frag) (mg : Str → Option Value) (J : GJ) (vs : List Nat) (w : WG) : TG := fun v σ H Q => ∃ (pr : Hp) (env : En) (F : Hp) (d : D) (q : En → Prop), Rep K mg J pr env σ F H ∧ Is K mg F v d ∧ w d env q ∧
  ∀ env' σ' F' H', Rep K mg J pr env' σ' F' H' → Same F F' → (∀ i, i ∉ vs → σ'[i]? = σ[i]?) → σ'.length = σ.length → q env' → Q σ' H'
structure DG (X : Cx) (J : GJ) (tg : Expr) (vs : List Nat) (w : WG) : Prop where
  run : PG X tg (tG X.K X.mg J vs w)
abbrev WGs := List D → En → (En → Prop) → Prop
def tGs (K : PySem.W.Frag) (mg : Str → Option Value) (J : GJ) (vs : List Nat) (w : WGs) : TGs := fun xs σ H Q => ∃ (pr : Hp) (env : En) (F : Hp) (ds : List D) (q : En → Prop), Rep K mg J pr env σ F H ∧ IsA K mg F xs ds ∧ w ds env q ∧
  ∀ env' σ' F' H', Rep K mg J pr env' σ' F' H' → Same F F' → (∀ i, i ∉ vs → σ'[i]? = σ[i]?) → σ'.length = σ.length → q env' → Q σ' H'
structure DGs (X : Cx) (J : GJ) (ts : List Expr) (vs : List Nat) (w : WGs) : Prop where
  run : PGs X ts (tGs X.K X.mg J vs w)
@[simp] def gN (i : Nat) : WG := fun d env q => q (env.set i (.val d))
@[simp] def gNil : WGs := fun ds env q => ds = [] ∧ q env
@[simp] def gCons (w : WG) (wr : WGs) : WGs := fun ds env q => ∃ d r, ds = d :: r ∧ w d env fun e1 => wr r e1 q
@[simp] def gTup (n : Nat) (w : WGs) : WG := fun d env q => ∃ ds, d = .tup ds ∧ ds.length = n ∧ w ds env q
section
variable {X : Cx} {J : GJ} {e : Expr} {es : List Expr} {w : WG} {ws : WGs} {vs us : List Nat} {pos : Pos}
theorem PG.imp {g g' : TG} (h : PG X e g) (i : ∀ v σ H Q, g' v σ H Q → g v σ H Q) : PG X e g' := ⟨fun pins s σ H v u Q I r q => h.run pins s σ H v u Q I r (i _ _ _ _ q)⟩
theorem PGs.imp {g g' : TGs} (h : PGs X es g) (i : ∀ v σ H Q, g' v σ H Q → g v σ H Q) : PGs X es g' := ⟨fun pins s σ H v u Q I r q => h.run pins s σ H v u Q I r (i _ _ _ _ q)⟩
theorem dg_name (i : Nat) (h : PG X e (L2.gName i)) : DG X J e [i] (gN i) := by
  refine ⟨PG.imp h fun v σ H Q ⟨pr, env, F, d, q, R, iv, hw, k⟩ => ?_⟩
  refine k _ (σ.set i (some v)) F H (R.store iv) (Same.refl _) (fun j hj => List.getElem?_set_ne (fun z => hj (by simp [z]))) (List.length_set ..) hw
theorem dgs_nil : DGs X J [] [] gNil := by
  refine ⟨PGs.imp pgs_nil fun v σ H Q ⟨pr, env, F, ds, q, R, iv, ⟨hd, hq⟩, k⟩ => ?_⟩
  subst hd
  exact ⟨iv.nil_inv, k env σ F H R (Same.refl _) (fun _ _ => rfl) rfl hq⟩
theorem dgs_cons (h : DG X J e us w) (h' : DGs X J es vs ws) (hs : (assignEach (e :: es) X.env).map (·.2) = assign e X.env :: (assignEach es X.env).map (·.2) := by rfl) : DGs X J (e :: es) (us ++ vs) (gCons w ws) := by
  refine ⟨PGs.imp (pgs_cons h.run h'.run hs) fun v σ H Q ⟨pr, env, F, ds, q, R, iv, ⟨d, r, hd, hq⟩, k⟩ => ?_⟩
  subst hd
  obtain ⟨x, xs, rfl, ix, ixs⟩ := iv.cons_inv
  refine ⟨x, xs, rfl, pr, env, F, d, _, R, ix, hq, fun e1 σ1 F1 H1 R1 s1 f1 l1 hq1 => ?_⟩
  refine ⟨pr, e1, F1, r, q, R1, ixs.mono s1, hq1, fun e2 σ2 F2 H2 R2 s2 f2 l2 hq2 => k e2 σ2 F2 H2 R2 (s1.trans s2) (fun i hi => ?_) (l2.trans l1) hq2⟩
  rw [List.mem_append, not_or] at hi
  exact (f2 i hi.2).trans (f1 i hi.1)
theorem dg_tup {k n} (hc : X.calm = true) (h : DGs X J es vs ws) (hn : (assignEach es X.env).length = n := by rfl) (hst : (assignEach es X.env).findIdx? (·.1) = none := by rfl) : DG X J (.Tuple es k pos) vs (gTup n ws) := by
  refine ⟨PG.imp (pg_tup hc h.run hn hst) fun v σ H Q ⟨pr, env, F, d, q, R, iv, ⟨ds, hd, hl, hq⟩, k⟩ => ?_⟩
  subst hd
  obtain ⟨a, xs, rfl, h1, ia⟩ := iv.tup_inv
  exact ⟨a, xs, rfl, same_seqT R.st.sub h1, by rw [ia.length]; exact hl, pr, env, F, ds, q, R, ia, hq, k⟩
end

/-! ### comprehensions -/
@[simp] def wipeE (env : En) : List Nat → En
  | [] => env
  | v :: vs => (wipeE env vs).set v .no
/-- the slots of vs as they stood ahead -/
@[simp] def backE (old env : En) : List Nat → En
  | [] => env
  | v :: vs => (backE old env vs).set v (old.getD v .no)
@[simp] def freeE (env : En) (vs : List Nat) : Prop := ∀ v ∈ vs, (env.getD v .no).isOwn = false
def lcGo (vs : List Nat) (g : WG) (tt : WT) (te : WE) (fin : List D → En → Prop) : List D → List D → En → Prop
  | [], acc, env => fin acc env
  | x :: xs, acc, env => g x env fun e2 => tt e2 fun b e3 => if b = true then te e3 fun y e4 => acc.length < sizeLine ∧ lcGo vs g tt te fin xs (acc ++ [y]) (wipeE e4 vs) else lcGo vs g tt te fin xs acc (wipeE e3 vs)
@[simp] def wLC (vs : List Nat) (wi : WI) (g : WG) (tt : WT) (te : WE) : WE := fun env q => wi env fun xs e1 => freeE e1 vs ∧ lcGo vs g tt te (fun acc e => q (.lst acc) (backE e1 e vs)) xs [] (wipeE e1 vs)
@[simp] def wYes : WT := fun env q => q true env
structure DTs (X : Cx) (J : GJ) (ifs : List Expr) (w : WT) : Prop where
  run : ∀ pr, PTs X ifs (tTs X.K X.mg J pr w)
section
variable {X : Cx} {J : GJ} {c : Expr} {w : WT}
theorem dts_nil : DTs X J [] wYes := ⟨fun pr => ⟨fun pins s σ H Q I ⟨env, F, q, R, hw, k⟩ => pts_nil.run pins s σ H Q I (k true env F H R (Same.refl _) hw)⟩⟩
theorem dts_one (h : DT X J c w) : DTs X J [c] w := ⟨fun pr => pts_one (h.run pr)⟩
end
section
variable {K : PySem.W.Frag} {mg : Str → Option Value} {J : GJ} {pr F H F' H' : Hp} {env old : En} {σ : L2.St}
theorem wipeE_length (env : En) : ∀ vs, (wipeE env vs).length = env.length
  | [] => rfl
  | v :: vs => by
    unfold wipeE
    rw [List.length_set, wipeE_length env vs]
theorem wipeE_get {i : Nat} {s : Sl} : ∀ {vs : List Nat}, (wipeE env vs)[i]? = some s → s = .no ∨ (env[i]? = some s ∧ i ∉ vs)
  | [], h => .inr ⟨h, by simp⟩
  | v :: vs, h => by
    unfold wipeE at h
    by_cases hv : v = i
    · subst hv
      obtain ⟨hl, h⟩ := List.getElem?_eq_some_iff.mp h
      simp only [List.getElem_set_self] at h
      exact .inl h.symm
    · rw [List.getElem?_set_ne hv] at h
      rcases wipeE_get h with h | ⟨h1, h2⟩
      · exact .inl h
      · refine .inr ⟨h1, ?_⟩
        simp only [List.mem_cons, not_or]
        exact ⟨fun z => hv z.symm, h2⟩
theorem wipe_get {i : Nat} : ∀ {vs : List Nat}, i ∉ vs → (wipe σ vs)[i]? = σ[i]?
  | [], _ => rfl
  | v :: vs, h => by
    simp only [List.mem_cons, not_or] at h
    unfold wipe
    rw [List.getElem?_set_ne (fun z => h.1 z.symm)]
    exact wipe_get h.2
theorem Rep.wipe (R : Rep K mg J pr env σ F H) (vs : List Nat) : Rep K mg J pr (wipeE env vs) (L2.wipe σ vs) F H := by
  refine ⟨R.st, by rw [wipeE_length, wipe_length]; exact R.len, fun i s o e1 e2 => ?_, fun i j s t ne e1 e2 hs ht => ?_⟩
  · rcases wipeE_get e1 with rfl | ⟨h1, h2⟩
    · trivial
    · rw [wipe_get h2] at e2
      exact R.sl i s o h1 e2
  · rcases wipeE_get e1 with rfl | ⟨h1, h2⟩
    · cases hs
    · rcases wipeE_get e2 with rfl | ⟨h3, h4⟩
      · cases ht
      · rw [wipe_get h2, wipe_get h4]
        exact R.dis i j s t ne h1 h3 hs ht
theorem backE_length (old env : En) : ∀ vs, (backE old env vs).length = env.length
  | [] => rfl
  | v :: vs => by
    unfold backE
    rw [List.length_set, backE_length old env vs]
theorem backE_get {i : Nat} {s : Sl} : ∀ {vs : List Nat}, (backE old env vs)[i]? = some s → (s = old.getD i .no ∧ i ∈ vs) ∨ (env[i]? = some s ∧ i ∉ vs)
  | [], h => .inr ⟨h, by simp⟩
  | v :: vs, h => by
    unfold backE at h
    by_cases hv : v = i
    · subst hv
      obtain ⟨hl, h⟩ := List.getElem?_eq_some_iff.mp h
      simp only [List.getElem_set_self] at h
      exact .inl ⟨h.symm, by simp⟩
    · rw [List.getElem?_set_ne hv] at h
      rcases backE_get h with ⟨h1, h2⟩ | ⟨h1, h2⟩
      · exact .inl ⟨h1, by simp [h2]⟩
      · refine .inr ⟨h1, ?_⟩
        simp only [List.mem_cons, not_or]
        exact ⟨fun z => hv z.symm, h2⟩
/-- the slots of the block forgotten, those of the def as they stood -/
theorem Rep.back {vs : List Nat} (R0 : Rep K mg J pr old σ F H) (fr : freeE old vs) (R : Rep K mg J pr env (L2.wipe σ vs) F' H') (s : Same F F') : Rep K mg J pr (backE old env vs) σ F' H' := by
  have val : ∀ {i : Nat} {s' : Sl} {o : Option V}, s' = old.getD i .no → i ∈ vs → σ[i]? = some o → SlOk K mg J pr F' H' o s' := fun {i s' o} e hi eo => by
    have hf := fr i hi
    rw [← e] at hf
    have hl : i < old.length := by
      rw [R0.len]
      exact (List.getElem?_eq_some_iff.mp eo).1
    have e1 : old[i]? = some s' := by
      rw [e, List.getD_eq_getElem?_getD, List.getElem?_eq_getElem hl]
      rfl
    have h := R0.sl i s' o e1 eo
    cases s' with
    | no => trivial
    | val d =>
      obtain ⟨v, ev, iv⟩ := h
      exact ⟨v, ev, iv.mono s⟩
    | own _ => cases hf
    | lat _ _ => cases hf
    | dk _ => cases hf
    | dt _ => cases hf
  refine ⟨R.st, by rw [backE_length, R.len, wipe_length], fun i s' o e1 e2 => ?_, fun i j s' t ne e1 e2 hs ht => ?_⟩
  · rcases backE_get e1 with ⟨h1, h2⟩ | ⟨h1, h2⟩
    · exact val h1 h2 e2
    · exact R.sl i s' o h1 (by rw [wipe_get h2]; exact e2)
  · rcases backE_get e1 with ⟨h1, h2⟩ | ⟨h1, h2⟩
    · rw [h1, fr i h2] at hs
      cases hs
    · rcases backE_get e2 with ⟨h3, h4⟩ | ⟨h3, h4⟩
      · rw [h3, fr j h4] at ht
        cases ht
      · have := R.dis i j s' t ne h1 h3 hs ht
        rwa [wipe_get h2, wipe_get h4] at this
/-- with one more object that somebody owns -/
theorem Rep.more {D : Addr} {o : HO} (R : Rep K mg J pr env σ F H) (h : H D = some o) (m : Mine J pr F D) (ho : NT o) (al : ∀ (i : Nat) (s : Sl), env[i]? = some s → s.isOwn = true → σ[i]? ≠ some (some (.ref D))) : Rep K mg J (upd pr D o) env σ F H := by
  refine ⟨⟨R.st.sub, fun b x e => ?_, R.st.inv, fun b mt => ?_, fun b x e => ?_⟩, R.len, fun i s q e1 e2 => ?_, R.dis⟩
  · by_cases hb : b = D
    · subst hb
      rw [upd_same] at e
      cases e
      exact ⟨h, m.f⟩
    · rw [upd_ne hb] at e
      exact R.st.prk b x e
  · have hb : b ≠ D := fun z => by
      subst z
      exact m.m mt
    rw [upd_ne hb]
    exact R.st.mtF b mt
  · rcases e with e | e
    · exact R.st.nt b x (.inl e)
    · by_cases hb : b = D
      · subst hb
        rw [upd_same] at e
        cases e
        exact ho
      · rw [upd_ne hb] at e
        exact R.st.nt b x (.inr e)
  · have hh := R.sl i s q e1 e2
    have ne : ∀ {p : Addr}, s.isOwn = true → q = some (.ref p) → p ≠ D := fun {p} hs hq z => by
      subst z
      exact al i s e1 hs (by rw [e2, hq])
    cases s with
    | no => trivial
    | val d => exact hh
    | own xs =>
      obtain ⟨p, vs, ep, h1, ia, mm⟩ := hh
      exact ⟨p, vs, ep, h1, ia, mm.f, by rw [upd_ne (ne rfl ep)]; exact mm.q, mm.m⟩
    | lat a0 xs =>
      obtain ⟨p, vs, ep, h1, ia, mm⟩ := hh
      exact ⟨p, vs, ep, h1, ia, mm.f, by rw [upd_ne (ne rfl ep)]; exact mm.q, mm.m⟩
    | dk xs =>
      obtain ⟨p, vs, ep, h1, ia, mm⟩ := hh
      exact ⟨p, vs, ep, h1, ia, mm.f, by rw [upd_ne (ne rfl ep)]; exact mm.q, mm.m⟩
    | dt xs =>
      obtain ⟨p, vs, ep, h1, ia, mm⟩ := hh
      exact ⟨p, vs, ep, h1, ia, mm.f, by rw [upd_ne (ne rfl ep)]; exact mm.q, mm.m⟩
/-- that object is written -/
theorem Rep.wr {D : Addr} {o o' : HO} (R : Rep K mg J (upd pr D o) env σ F H) (q : pr D = none) (ho : NT o') (hx : ∀ φ, o ≠ .ext φ) : Rep K mg J (upd pr D o') env σ F (upd H D o') := by
  have hD := R.st.prk D o upd_same
  have mD : ¬ J.mt D := fun z => by
    have := (R.st.mtF D z).2
    rw [upd_same] at this
    cases this
  refine ⟨⟨fun b x e => ?_, fun b x e => ?_, J.stay F H _ _ R.st.inv (Same.refl _) (fun b mt => upd_ne (fun z => mD (z ▸ mt))) (fun b φ h => (upd_ne (fun z => by subst z; rw [hD.1] at h; exact hx φ (Option.some.inj h))).trans h), fun b mt => ?_, fun b x e => ?_⟩, R.len, fun i s u e1 e2 => ?_, R.dis⟩
  · rw [upd_ne (ne_of_none e hD.2)]
    exact R.st.sub b x e
  · by_cases hb : b = D
    · subst hb
      rw [upd_same] at e ⊢
      exact ⟨e, hD.2⟩
    · rw [upd_ne hb] at e
      rw [upd_ne hb]
      exact R.st.prk b x (by rw [upd_ne hb]; exact e)
  · have hb : b ≠ D := fun z => mD (z ▸ mt)
    have := R.st.mtF b mt
    rw [upd_ne hb] at this ⊢
    exact this
  · rcases e with e | e
    · exact R.st.nt b x (.inl e)
    · by_cases hb : b = D
      · subst hb
        rw [upd_same] at e
        cases e
        exact ho
      · rw [upd_ne hb] at e
        exact R.st.nt b x (.inr (by rw [upd_ne hb]; exact e))
  · have hh := R.sl i s u e1 e2
    have ne : ∀ {p : Addr}, upd pr D o p = none → p ≠ D := fun {p} hp z => by
      subst z
      rw [upd_same] at hp
      cases hp
    cases s with
    | no => trivial
    | val d => exact hh
    | own xs =>
      obtain ⟨p, vs, ep, h1, ia, mm⟩ := hh
      have n := ne mm.q
      exact ⟨p, vs, ep, by rw [upd_ne n]; exact h1, ia, mm.f, by have := mm.q; rw [upd_ne n] at this ⊢; exact this, mm.m⟩
    | lat a0 xs =>
      obtain ⟨p, vs, ep, h1, ia, mm⟩ := hh
      have n := ne mm.q
      exact ⟨p, vs, ep, by rw [upd_ne n]; exact h1, ia, mm.f, by have := mm.q; rw [upd_ne n] at this ⊢; exact this, mm.m⟩
    | dk xs =>
      obtain ⟨p, vs, ep, h1, ia, mm⟩ := hh
      have n := ne mm.q
      exact ⟨p, vs, ep, by rw [upd_ne n]; exact h1, ia, mm.f, by have := mm.q; rw [upd_ne n] at this ⊢; exact this, mm.m⟩
    | dt xs =>
      obtain ⟨p, vs, ep, h1, ia, mm⟩ := hh
      have n := ne mm.q
      exact ⟨p, vs, ep, by rw [upd_ne n]; exact h1, ia, mm.f, by have := mm.q; rw [upd_ne n] at this ⊢; exact this, mm.m⟩
/-- .. and given back: it is ours -/
theorem Rep.less {D : Addr} {o : HO} (R : Rep K mg J (upd pr D o) env σ F H) (q : pr D = none) : Rep K mg J pr env σ F H ∧ H D = some o ∧ Mine J pr F D ∧ ∀ (i : Nat) (s : Sl), env[i]? = some s → s.isOwn = true → σ[i]? ≠ some (some (.ref D)) := by
  have hD := R.st.prk D o upd_same
  have mD : ¬ J.mt D := fun z => by
    have := (R.st.mtF D z).2
    rw [upd_same] at this
    cases this
  have ne : ∀ {p : Addr}, upd pr D o p = none → p ≠ D ∧ pr p = none := fun {p} hp => by
    have n : p ≠ D := fun z => by
      subst z
      rw [upd_same] at hp
      cases hp
    rw [upd_ne n] at hp
    exact ⟨n, hp⟩
  refine ⟨⟨⟨R.st.sub, fun b x e => ?_, R.st.inv, fun b mt => ⟨(R.st.mtF b mt).1, (ne (R.st.mtF b mt).2).2⟩, fun b x e => e.elim (fun e => R.st.nt b x (.inl e)) fun e => R.st.nt b x (.inr (by rw [upd_ne (ne_of_none e q)]; exact e))⟩, R.len, fun i s u e1 e2 => ?_, R.dis⟩, hD.1, ⟨hD.2, q, mD⟩, fun i s e1 hs e2 => ?_⟩
  · have hb : b ≠ D := ne_of_none e q
    exact R.st.prk b x (by rw [upd_ne hb]; exact e)
  · have hh := R.sl i s u e1 e2
    cases s with
    | no => trivial
    | val d => exact hh
    | own xs =>
      obtain ⟨p, vs, ep, h1, ia, mm⟩ := hh
      exact ⟨p, vs, ep, h1, ia, mm.f, (ne mm.q).2, mm.m⟩
    | lat a0 xs =>
      obtain ⟨p, vs, ep, h1, ia, mm⟩ := hh
      exact ⟨p, vs, ep, h1, ia, mm.f, (ne mm.q).2, mm.m⟩
    | dk xs =>
      obtain ⟨p, vs, ep, h1, ia, mm⟩ := hh
      exact ⟨p, vs, ep, h1, ia, mm.f, (ne mm.q).2, mm.m⟩
    | dt xs =>
      obtain ⟨p, vs, ep, h1, ia, mm⟩ := hh
      exact ⟨p, vs, ep, h1, ia, mm.f, (ne mm.q).2, mm.m⟩
  · have hh := R.sl i s _ e1 e2
    cases s with
    | no => cases hs
    | val d => cases hs
    | own xs =>
      obtain ⟨p, vs, ep, h1, ia, mm⟩ := hh
      cases ep
      exact (ne mm.q).1 rfl
    | lat a0 xs =>
      obtain ⟨p, vs, ep, h1, ia, mm⟩ := hh
      cases ep
      exact (ne mm.q).1 rfl
    | dk xs =>
      obtain ⟨p, vs, ep, h1, ia, mm⟩ := hh
      cases ep
      exact (ne mm.q).1 rfl
    | dt xs =>
      obtain ⟨p, vs, ep, h1, ia, mm⟩ := hh
      cases ep
      exact (ne mm.q).1 rfl
end
end DL

/-! DL6: comprehensions. -/
namespace DL
open PySem PySem.Spec PyProof.Rows L2

section
variable (K : PySem.W.Frag) (mg : Str → Option Value) (J : GJ)
def xE (w : WE) : TE := fun σ H Q => ∃ pr, tE K mg J pr w σ H Q
def xT (w : WT) : TT := fun σ H Q => ∃ pr, tTs K mg J pr w σ H Q
/-- a new list comes, its items known; nobody else's -/
def tNew (σ : L2.St) (pr F : Hp) (fin : List D → En → Prop) (Q : VK) : Prop := ∀ acc env' va (D : Addr) (F' H' : Hp), Rep K mg J pr env' σ F' H' → Same F F' → H' D = some (.lst va) → Mine J pr F' D →
  (∀ (i : Nat) (s : Sl), env'[i]? = some s → s.isOwn = true → σ[i]? ≠ some (some (.ref D))) → IsA K mg F' va acc → fin acc env' → Q (.ref D) H'
end
section
variable {X : Cx} {J : GJ} {e : Expr}
theorem DE.x {w : WE} (h : DE X J e w) : PE X e (xE X.K X.mg J w) := ⟨fun pins s σ H Q I ⟨pr, q⟩ => (h.run pr).run pins s σ H Q I q⟩
theorem DTs.x {ifs : List Expr} {w : WT} (h : DTs X J ifs w) : PTs X ifs (xT X.K X.mg J w) := ⟨fun pins s σ H Q I ⟨pr, q⟩ => (h.run pr).run pins s σ H Q I q⟩
end

theorem wipe_eq {σ σ2 : L2.St} {vs : List Nat} (h : ∀ i, i ∉ vs → σ2[i]? = (L2.wipe σ vs)[i]?) (l : σ2.length = (L2.wipe σ vs).length) : L2.wipe σ2 vs = L2.wipe σ vs := by
  have at_ : ∀ (τ : L2.St) (us : List Nat) (i : Nat), i ∈ us → i < τ.length → (L2.wipe τ us)[i]? = some none := by
    intro τ us
    induction us with
    | nil => intro i hi; cases hi
    | cons u us ih =>
      intro i hi hl
      unfold L2.wipe
      by_cases hu : u = i
      · subst hu
        exact List.getElem?_set_self (by rw [wipe_length]; exact hl)
      · rw [List.getElem?_set_ne hu]
        exact ih i ((List.mem_cons.mp hi).resolve_left fun z => hu z.symm) hl
  have l' : σ2.length = σ.length := by rw [l, wipe_length]
  refine List.ext_getElem? fun i => ?_
  by_cases hi : i ∈ vs
  · by_cases hl : i < σ.length
    · rw [at_ σ2 vs i hi (by omega), at_ σ vs i hi hl]
    · rw [List.getElem?_eq_none (by rw [wipe_length]; omega), List.getElem?_eq_none (by rw [wipe_length]; omega)]
  · rw [wipe_get hi, wipe_get hi]
    have := h i hi
    rwa [wipe_get hi] at this

section
variable {K : PySem.W.Frag} {mg : Str → Option Value} {J : GJ}
theorem Rep.apart {pr F H : Hp} {env : En} {σ : L2.St} (R : Rep K mg J pr env σ F H) {D : Addr} (n : H D = none) : Mine J pr F D ∧ ∀ (i : Nat) (s : Sl), env[i]? = some s → s.isOwn = true → σ[i]? ≠ some (some (.ref D)) := by
  refine ⟨⟨R.st.sub.free n, ?_, fun m => J.at_ F H D R.st.inv m n⟩, fun i s e1 hs e2 => ?_⟩
  · cases q : pr D with
    | none => rfl
    | some o =>
      rw [(R.st.prk D o q).1] at n
      cases n
  · have hh := R.sl i s _ e1 e2
    cases s with
    | no => cases hs
    | val d => cases hs
    | own xs =>
      obtain ⟨p, vs, ep, h1, _⟩ := hh
      cases ep
      rw [n] at h1
      cases h1
    | lat a0 xs =>
      obtain ⟨p, vs, ep, h1, _⟩ := hh
      cases ep
      rw [n] at h1
      cases h1
    | dk xs =>
      obtain ⟨p, vs, ep, h1, _⟩ := hh
      cases ep
      rw [n] at h1
      cases h1
    | dt xs =>
      obtain ⟨p, vs, ep, h1, _⟩ := hh
      cases ep
      rw [n] at h1
      cases h1
/-- the invariant of a comprehension -/
def LcW (K : PySem.W.Frag) (mg : Str → Option Value) (J : GJ) (pr F1 : Hp) (L : Addr) (τ : L2.St) (n : Nat) (go : Nat → List D → En → Prop) (i m : Nat) (H : Hp) : Prop :=
  ∃ acc va env F, Rep K mg J (upd pr L (.lst va)) env τ F H ∧ Same F1 F ∧ IsA K mg F va acc ∧ m = n - i ∧ i ≤ n ∧ go i acc env
theorem lc_rest {vs : List Nat} {g : WG} {tt : WT} {te : WE} {σ : L2.St} {H1 : Hp} {Q : VK} {pr : Hp} {e1 : En} {F1 : Hp} {fin : List D → En → Prop} {It : L2.It} {xs : List D} (R1 : Rep K mg J pr e1 σ F1 H1) (itok : ∀ pr', ItOk K mg J pr' It F1 xs)
    (fr : freeE e1 vs) (hgo : lcGo vs g tt te (fun acc e => fin acc (backE e1 e vs)) xs [] (wipeE e1 vs)) (k : tNew K mg J σ pr F1 fin Q) : tLc (fun _ H R => R It H) (tG K mg J vs g) (xT K mg J tt) (xE K mg J te) vs σ H1 Q := by
  intro D n
  obtain ⟨mD, al⟩ := R1.apart n
  refine ⟨LcW K mg J pr F1 D (L2.wipe σ vs) xs.length fun i acc e => lcGo vs g tt te (fun acc e => fin acc (backE e1 e vs)) (xs.drop i) acc e, ⟨xs.length, [], [], wipeE e1 vs, F1, ?_, Same.refl _, .nil, by omega, Nat.zero_le _, hgo⟩, ?_⟩
  · have R2 := (R1.wipe vs).stp ((R1.wipe vs).st.made (o := .lst []) n)
    obtain ⟨_, al'⟩ := (R1.wipe vs).apart n
    exact R2.more upd_same mD nt_lst al'
  · rintro i m Hc ⟨acc, va, env', F', R', s', ia, rfl, hi, hg'⟩
    by_cases hlt : i < xs.length
    · refine .inr ⟨(itok pr).go i F' Hc s' R'.st.sub hlt, fun H' => ∃ m', m' < xs.length - i ∧ LcW K mg J pr F1 D (L2.wipe σ vs) xs.length (fun i acc e => lcGo vs g tt te (fun acc e => fin acc (backE e1 e vs)) (xs.drop i) acc e) (i + 1) m' H', fun _ h => h, fun x H' hy => ?_⟩
      obtain ⟨F2, d, hd, t, ix⟩ := (itok _).yld i F' Hc x H' s' R'.st hlt hy
      have hdr : xs.drop i = d :: xs.drop (i + 1) := by
        obtain ⟨hl, e⟩ := List.getElem?_eq_some_iff.mp hd
        rw [List.drop_eq_getElem_cons hl, e]
      rw [hdr] at hg'
      refine ⟨_, env', F2, d, _, R'.stp t, ix, hg', fun env2 σ2 F3 H3 R3 s3 keep len hq => ?_⟩
      have ew : L2.wipe σ2 vs = L2.wipe σ vs := wipe_eq keep len
      refine ⟨ew, _, env2, F3, _, R3, hq, fun b env3 F4 H4 R4 s4 hq4 => ?_⟩
      have sF : Same F1 F4 := ((s'.trans t.ff).trans s3).trans s4
      have iaF : IsA K mg F4 va acc := ((ia.mono t.ff).mono s3).mono s4
      cases b with
      | true =>
        refine ⟨_, env3, F4, _, R4, hq4, fun y env5 v F5 H5 R5 s5 iy ⟨hl, hgo'⟩ => ?_⟩
        refine ⟨va, (R5.st.prk D _ upd_same).1, by rw [ia.length]; exact hl, xs.length - (i + 1), by omega, acc ++ [y], va ++ [v], wipeE env5 vs, F5, ?_, sF.trans s5, (iaF.mono s5).append (.cons iy .nil), rfl, by omega, hgo'⟩
        have R6 := R5.wipe vs
        rw [ew] at R6
        exact R6.wr mD.q nt_lst fun φ z => by cases z
      | false =>
        refine ⟨xs.length - (i + 1), by omega, acc, va, wipeE env3 vs, F4, ?_, sF, iaF, rfl, by omega, hq4⟩
        have R6 := R4.wipe vs
        rw [ew] at R6
        exact R6
    · have e : i = xs.length := by omega
      subst e
      refine .inl ⟨(itok pr).stop _ F' Hc s' R'.st.sub (Nat.le_refl _), ?_⟩
      rw [List.drop_length] at hg'
      obtain ⟨R2, h1, m2, al2⟩ := R'.less mD.q
      refine k acc _ va D F' Hc (R1.back fr R2 s') s' h1 m2 (fun j s e1 hs e2 => ?_) ia hg'
      rcases backE_get e1 with ⟨h3, h4⟩ | ⟨h3, h4⟩
      · rw [h3, fr j h4] at hs
        cases hs
      · exact al2 j s h3 hs (by rw [wipe_get h4]; exact e2)
theorem lc_of {vs : List Nat} {wi : WI} {g : WG} {tt : WT} {te : WE} {σ : L2.St} {H : Hp} {Q : VK} {pr : Hp} {env : En} {F : Hp} {fin : List D → En → Prop} (R : Rep K mg J pr env σ F H)
    (hw : wi env fun xs e1 => freeE e1 vs ∧ lcGo vs g tt te (fun acc e => fin acc (backE e1 e vs)) xs [] (wipeE e1 vs)) (k : tNew K mg J σ pr F fin Q) : tLc (tI K mg J wi) (tG K mg J vs g) (xT K mg J tt) (xE K mg J te) vs σ H Q := by
  refine ⟨pr, env, F, _, R, hw, fun It xs e1 F1 H1 R1 s1 itok ⟨fr, hgo⟩ => lc_rest R1 itok fr hgo fun acc env' va D F' H' R' s => k acc env' va D F' H' R' (s1.trans s)⟩
theorem new_frz {σ : L2.St} {pr F : Hp} {q : D → En → Prop} {Q : VK} (k : ∀ d env' v F' H', Rep K mg J pr env' σ F' H' → Same F F' → Is K mg F' v d → q d env' → Q v H') : tNew K mg J σ pr F (fun acc e => q (.lst acc) e) Q := by
  intro acc env' va D F' H' R s h m al ia hq
  have sm : Same F' (upd F' D (.lst va)) := same_upd' m.f
  refine k _ env' _ (upd F' D (.lst va)) H' ⟨R.st.freeze h m.f m.q m.m nt_lst, R.len, fun i s o e1 e2 => ?_, R.dis⟩ (s.trans sm) (.lst upd_same (ia.mono sm)) hq
  have hh := R.sl i s o e1 e2
  have ne : ∀ {p : Addr}, s.isOwn = true → o = some (.ref p) → p ≠ D := fun {p} hs ho z => by
    subst z
    exact al i s e1 hs (by rw [e2, ho])
  cases s with
  | no => trivial
  | val d =>
    obtain ⟨v, ev, iv⟩ := hh
    exact ⟨v, ev, iv.mono sm⟩
  | own xs =>
    obtain ⟨p, vs, ep, h1, ia, mm⟩ := hh
    exact ⟨p, vs, ep, h1, ia.mono sm, by rw [upd_ne (ne rfl ep)]; exact mm.f, mm.q, mm.m⟩
  | lat a0 xs =>
    obtain ⟨p, vs, ep, h1, ia, mm⟩ := hh
    exact ⟨p, vs, ep, h1, ia.mono sm, by rw [upd_ne (ne rfl ep)]; exact mm.f, mm.q, mm.m⟩
  | dk xs =>
    obtain ⟨p, vs, ep, h1, ia, mm⟩ := hh
    exact ⟨p, vs, ep, h1, ia.mono sm, by rw [upd_ne (ne rfl ep)]; exact mm.f, mm.q, mm.m⟩
  | dt xs =>
    obtain ⟨p, vs, ep, h1, ia, mm⟩ := hh
    exact ⟨p, vs, ep, h1, ia.mono sm, by rw [upd_ne (ne rfl ep)]; exact mm.f, mm.q, mm.m⟩

/-! two clauses -/
def lc2In (vs vs1 : List Nat) (g1 : WG) (tt1 : WT) (te : WE) (nx : List D → En → Prop) : List D → List D → En → Prop
  | [], acc, env => nx acc env
  | x :: xs, acc, env => g1 x env fun e2 => tt1 e2 fun b e3 => if b = true then te e3 fun y e4 => acc.length < sizeLine ∧ lc2In vs vs1 g1 tt1 te nx xs (acc ++ [y]) (wipeE e4 vs1) else lc2In vs vs1 g1 tt1 te nx xs acc (wipeE e3 vs1)
def lc2Go (vs vs1 : List Nat) (g : WG) (tt : WT) (wi1 : WI) (g1 : WG) (tt1 : WT) (te : WE) (fin : List D → En → Prop) : List D → List D → En → Prop
  | [], acc, env => fin acc env
  | x :: xs, acc, env => g x env fun e2 => tt e2 fun b e3 => if b = true then wi1 e3 fun ys e4 => lc2In vs vs1 g1 tt1 te (fun acc e => lc2Go vs vs1 g tt wi1 g1 tt1 te fin xs acc (wipeE e vs)) ys acc (wipeE e4 vs1)
    else lc2Go vs vs1 g tt wi1 g1 tt1 te fin xs acc (wipeE e3 vs)
@[simp] def wLC2 (vs vs1 : List Nat) (wi : WI) (g : WG) (tt : WT) (wi1 : WI) (g1 : WG) (tt1 : WT) (te : WE) : WE := fun env q => wi env fun xs e1 => freeE e1 vs ∧ lc2Go vs vs1 g tt wi1 g1 tt1 te (fun acc e => q (.lst acc) (backE e1 e vs)) xs [] (wipeE e1 vs)
theorem wipe_sub {σ σ2 : L2.St} {vs vs1 : List Nat} (hv : ∀ i ∈ vs1, i ∈ vs) (h : L2.wipe σ vs1 = L2.wipe σ2 vs1) : L2.wipe σ vs = L2.wipe σ2 vs := by
  have hl : σ.length = σ2.length := by
    have := congrArg List.length h
    rwa [wipe_length, wipe_length] at this
  rw [← wipe_idem σ2 vs]
  refine wipe_eq (fun i hi => ?_) ?_
  · have hi1 : i ∉ vs1 := fun z => hi (hv i z)
    have := congrArg (fun l : L2.St => l[i]?) h
    simp only [wipe_get hi1] at this
    rw [wipe_get hi, wipe_get hi]
    exact this
  · rw [wipe_length, wipe_length, hl]
where wipe_idem (σ : L2.St) (vs : List Nat) : L2.wipe (L2.wipe σ vs) vs = L2.wipe σ vs := wipe_eq (fun i hi => rfl) rfl
theorem lc2_of {vs vs1 : List Nat} {wi wi1 : WI} {g g1 : WG} {tt tt1 : WT} {te : WE} {σ : L2.St} {H : Hp} {Q : VK} {pr : Hp} {env : En} {F : Hp} {fin : List D → En → Prop} (hv : ∀ i ∈ vs1, i ∈ vs) (R : Rep K mg J pr env σ F H)
    (hw : wi env fun xs e1 => freeE e1 vs ∧ lc2Go vs vs1 g tt wi1 g1 tt1 te (fun acc e => fin acc (backE e1 e vs)) xs [] (wipeE e1 vs)) (k : tNew K mg J σ pr F fin Q) :
    tLc2 (tI K mg J wi) (tG K mg J vs g) (xT K mg J tt) (tI K mg J wi1) (tG K mg J vs1 g1) (xT K mg J tt1) (xE K mg J te) vs vs1 σ H Q := by
  refine ⟨pr, env, F, _, R, hw, fun It xs e1 F1 H1 R1 s1 itok ⟨fr, hgo⟩ D n => ?_⟩
  obtain ⟨mD, al⟩ := R1.apart n
  refine ⟨LcW K mg J pr F1 D (L2.wipe σ vs) xs.length fun i acc e => lc2Go vs vs1 g tt wi1 g1 tt1 te (fun acc e => fin acc (backE e1 e vs)) (xs.drop i) acc e, ⟨xs.length, [], [], wipeE e1 vs, F1, ?_, Same.refl _, .nil, by omega, Nat.zero_le _, hgo⟩, ?_⟩
  · have R2 := (R1.wipe vs).stp ((R1.wipe vs).st.made (o := .lst []) n)
    obtain ⟨_, al'⟩ := (R1.wipe vs).apart n
    exact R2.more upd_same mD nt_lst al'
  · rintro i m Hc ⟨acc, va, env', F', R', s', ia, rfl, hi, hg'⟩
    by_cases hlt : i < xs.length
    · refine .inr ⟨(itok pr).go i F' Hc s' R'.st.sub hlt, fun H' => ∃ m', m' < xs.length - i ∧ LcW K mg J pr F1 D (L2.wipe σ vs) xs.length (fun i acc e => lc2Go vs vs1 g tt wi1 g1 tt1 te (fun acc e => fin acc (backE e1 e vs)) (xs.drop i) acc e) (i + 1) m' H', fun _ h => h, fun x H' hy => ?_⟩
      obtain ⟨F2, d, hd, t, ix⟩ := (itok _).yld i F' Hc x H' s' R'.st hlt hy
      have hdr : xs.drop i = d :: xs.drop (i + 1) := by
        obtain ⟨hl, e⟩ := List.getElem?_eq_some_iff.mp hd
        rw [List.drop_eq_getElem_cons hl, e]
      rw [hdr] at hg'
      refine ⟨_, env', F2, d, _, R'.stp t, ix, hg', fun env2 σ2 F3 H3 R3 s3 keep len hq => ?_⟩
      have ew : L2.wipe σ2 vs = L2.wipe σ vs := wipe_eq keep len
      refine ⟨ew, _, env2, F3, _, R3, hq, fun b env3 F4 H4 R4 s4 hq4 => ?_⟩
      have sF : Same F1 F4 := ((s'.trans t.ff).trans s3).trans s4
      have iaF : IsA K mg F4 va acc := ((ia.mono t.ff).mono s3).mono s4
      cases b with
      | false =>
        refine ⟨xs.length - (i + 1), by omega, acc, va, wipeE env3 vs, F4, ?_, sF, iaF, rfl, by omega, hq4⟩
        have R6 := R4.wipe vs
        rw [ew] at R6
        exact R6
      | true =>
        refine ⟨_, env3, F4, _, R4, hq4, fun It1 ys e4 F5 H5 R5 s5 itok1 hin => ?_⟩
        refine ⟨LcW K mg J pr F5 D (L2.wipe σ2 vs1) ys.length fun j acc e => lc2In vs vs1 g1 tt1 te (fun acc e => lc2Go vs vs1 g tt wi1 g1 tt1 te (fun acc e => fin acc (backE e1 e vs)) (xs.drop (i + 1)) acc (wipeE e vs)) (ys.drop j) acc e,
          ⟨ys.length, acc, va, wipeE e4 vs1, F5, R5.wipe vs1, Same.refl _, iaF.mono s5, by omega, Nat.zero_le _, hin⟩, ?_⟩
        rintro j m' Hd ⟨acc', va', env6, F6, R6, s6, ia6, rfl, hj, hg6⟩
        by_cases hjl : j < ys.length
        · refine .inr ⟨(itok1 pr).go j F6 Hd s6 R6.st.sub hjl, fun H' => ∃ m', m' < ys.length - j ∧ LcW K mg J pr F5 D (L2.wipe σ2 vs1) ys.length (fun j acc e => lc2In vs vs1 g1 tt1 te (fun acc e => lc2Go vs vs1 g tt wi1 g1 tt1 te (fun acc e => fin acc (backE e1 e vs)) (xs.drop (i + 1)) acc (wipeE e vs)) (ys.drop j) acc e) (j + 1) m' H', fun _ h => h, fun z H' hz => ?_⟩
          obtain ⟨F7, dz, hdz, t7, iz⟩ := (itok1 _).yld j F6 Hd z H' s6 R6.st hjl hz
          have hdy : ys.drop j = dz :: ys.drop (j + 1) := by
            obtain ⟨hl, e⟩ := List.getElem?_eq_some_iff.mp hdz
            rw [List.drop_eq_getElem_cons hl, e]
          rw [hdy] at hg6
          refine ⟨_, env6, F7, dz, _, R6.stp t7, iz, hg6, fun env8 σ8 F8 H8 R8 s8 keep8 len8 hq8 => ?_⟩
          have ew1 : L2.wipe σ8 vs1 = L2.wipe σ2 vs1 := wipe_eq keep8 len8
          refine ⟨ew1, _, env8, F8, _, R8, hq8, fun b env9 F9 H9 R9 s9 hq9 => ?_⟩
          have sF9 : Same F5 F9 := ((s6.trans t7.ff).trans s8).trans s9
          have iaF9 : IsA K mg F9 va' acc' := ((ia6.mono t7.ff).mono s8).mono s9
          cases b with
          | true =>
            refine ⟨_, env9, F9, _, R9, hq9, fun y envA v FA HA RA sA iy ⟨hl, hgo'⟩ => ?_⟩
            refine ⟨va', (RA.st.prk D _ upd_same).1, by rw [ia6.length]; exact hl, ys.length - (j + 1), by omega, acc' ++ [y], va' ++ [v], wipeE envA vs1, FA, ?_, sF9.trans sA, (iaF9.mono sA).append (.cons iy .nil), rfl, by omega, hgo'⟩
            have RB := RA.wipe vs1
            rw [ew1] at RB
            exact RB.wr mD.q nt_lst fun φ z => by cases z
          | false =>
            refine ⟨ys.length - (j + 1), by omega, acc', va', wipeE env9 vs1, F9, ?_, sF9, iaF9, rfl, by omega, hq9⟩
            have RB := R9.wipe vs1
            rw [ew1] at RB
            exact RB
        · have e : j = ys.length := by omega
          subst e
          refine .inl ⟨(itok1 pr).stop _ F6 Hd s6 R6.st.sub (Nat.le_refl _), ?_⟩
          rw [List.drop_length] at hg6
          refine ⟨xs.length - (i + 1), by omega, acc', va', wipeE env6 vs, F6, ?_, (sF.trans s5).trans s6, ia6, rfl, by omega, hg6⟩
          have RB := R6.wipe vs
          have e2 : L2.wipe (L2.wipe σ2 vs1) vs = L2.wipe σ2 vs := wipe_sub hv (wipe_sub.wipe_idem σ2 vs1)
          rw [e2, ew] at RB
          exact RB
    · have e : i = xs.length := by omega
      subst e
      refine .inl ⟨(itok pr).stop _ F' Hc s' R'.st.sub (Nat.le_refl _), ?_⟩
      rw [List.drop_length] at hg'
      obtain ⟨R2, h1, m2, al2⟩ := R'.less mD.q
      refine k acc _ va D F' Hc (R1.back fr R2 s') (s1.trans s') h1 m2 (fun j s e1 hs e2 => ?_) ia hg'
      rcases backE_get e1 with ⟨h3, h4⟩ | ⟨h3, h4⟩
      · rw [h3, fr j h4] at hs
        cases hs
      · exact al2 j s h3 hs (by rw [wipe_get h4]; exact e2)
end

section
variable {X : Cx} {J : GJ} {elt tg iter tg1 iter1 : Expr} {ifs ifs1 : List Expr} {scope : Scope} {own : List (Str × Nat)} {vs1 : List Nat} {pos : Pos} {wi wi1 : WI} {g g1 : WG} {tt tt1 : WT} {te : WE}
/-- the contexts of a comprehension's block -/
abbrev InBlk (X : Cx) (scope : Scope) (P : Cx → Prop) : Prop := ∀ (s : Shared) (H : Hp) (C : Addr) (cl : List (Str × Addr)) (fp : List Addr), P (X.blk s H scope (compEnvC scope cl C X.env) fp)
theorem de_lc (hc : X.calm = true) (hN : X.N.Nodup) (hi : DI X J tg iter wi) (ok : BlkOk X.N X.env.scope scope own) (hg : InBlk X scope fun Y => DG Y J tg (own.map (·.2)) g) (ht : InBlk X scope fun Y => DTs Y J ifs tt) (he : InBlk X scope fun Y => DE Y J elt te)
    (hs : ∀ x, foldedSetIterable iter X.env x = pure x := by intro _; rfl) : DE X J (.ListComp elt [⟨tg, iter, ifs, 0⟩] scope pos) (wLC (own.map (·.2)) wi g tt te) :=
  ⟨fun pr => PE.imp (pe_lc hc hN hi.run ok (fun s H C cl fp => (hg s H C cl fp).run) (fun s H C cl fp => (ht s H C cl fp).x) (fun s H C cl fp => (he s H C cl fp).x) hs) fun σ H Q ⟨env, F, q, R, hw, k⟩ => lc_of R hw (new_frz k)⟩
theorem de_lc2 (hc : X.calm = true) (hN : X.N.Nodup) (hi : DI X J tg iter wi) (ok : BlkOk X.N X.env.scope scope own) (hv : ∀ i ∈ vs1, i ∈ own.map (·.2)) (hg : InBlk X scope fun Y => DG Y J tg (own.map (·.2)) g) (ht : InBlk X scope fun Y => DTs Y J ifs tt)
    (hi1 : InBlk X scope fun Y => DI Y J tg1 iter1 wi1) (hg1 : InBlk X scope fun Y => DG Y J tg1 vs1 g1) (ht1 : InBlk X scope fun Y => DTs Y J ifs1 tt1) (he : InBlk X scope fun Y => DE Y J elt te)
    (hs : ∀ x, foldedSetIterable iter X.env x = pure x := by intro _; rfl) (hs1 : ∀ env x, foldedSetIterable iter1 env x = pure x := by intro _ _; rfl) : DE X J (.ListComp elt [⟨tg, iter, ifs, 0⟩, ⟨tg1, iter1, ifs1, 0⟩] scope pos) (wLC2 (own.map (·.2)) vs1 wi g tt wi1 g1 tt1 te) :=
  ⟨fun pr => PE.imp (pe_lc2 hc hN hi.run ok hv (fun s H C cl fp => (hg s H C cl fp).run) (fun s H C cl fp => (ht s H C cl fp).x) (fun s H C cl fp => (hi1 s H C cl fp).run) (fun s H C cl fp => (hg1 s H C cl fp).run) (fun s H C cl fp => (ht1 s H C cl fp).x) (fun s H C cl fp => (he s H C cl fp).x) hs hs1)
    fun σ H Q ⟨env, F, q, R, hw, k⟩ => lc2_of hv R hw (new_frz k)⟩
theorem DG.wide {X : Cx} {J : GJ} {tg : Expr} {vs us : List Nat} {w : WG} (h : DG X J tg vs w) (hv : ∀ i ∈ vs, i ∈ us) : DG X J tg us w :=
  ⟨PG.imp h.run fun v σ H Q ⟨pr, env, F, d, q, R, iv, hw, k⟩ => ⟨pr, env, F, d, q, R, iv, hw, fun env' σ' F' H' R' s' f l hq => k env' σ' F' H' R' s' (fun i hi => f i fun z => hi (hv i z)) l hq⟩⟩
end
end DL

/-! DL7: statements, and a def's promise from its body. -/
namespace DL
open PySem PySem.Spec PyProof.Rows L2

structure DEnds where
  nx : En → Prop
  rt : D → En → Prop
  bk : En → Prop := fun _ => False
  ct : En → Prop := fun _ => False
  rs : Str → List (Str × D) → En → Prop := fun _ _ _ => False
abbrev WS := En → DEnds → Prop
abbrev WV := En → (Sl → En → Prop) → Prop
section
variable (K : PySem.W.Frag) (mg : Str → Option Value) (J : GJ) (pr : Hp)
structure LeE (F : Hp) (E : DEnds) (Z : Ends) : Prop where
  nx : ∀ env' σ' F' H', Rep K mg J pr env' σ' F' H' → Same F F' → E.nx env' → Z.nx σ' H'
  rt : ∀ d v env' σ' F' H', Rep K mg J pr env' σ' F' H' → Same F F' → Is K mg F' v d → E.rt d env' → Z.rt v H'
  bk : ∀ env' σ' F' H', Rep K mg J pr env' σ' F' H' → Same F F' → E.bk env' → Z.bk σ' H'
  ct : ∀ env' σ' F' H', Rep K mg J pr env' σ' F' H' → Same F F' → E.ct env' → Z.ct σ' H'
end
def tS (K : PySem.W.Frag) (mg : Str → Option Value) (J : GJ) (w : WS) : TS := fun Z σ H => ∃ (pr : Hp) (env : En) (F : Hp) (E : DEnds), Rep K mg J pr env σ F H ∧ w env E ∧ LeE K mg J pr F E Z
structure DS (X : Cx) (J : GJ) (st : Stmt) (w : WS) : Prop where
  run : PS X st (tS X.K X.mg J w)
structure DSs (X : Cx) (J : GJ) (st : List Stmt) (w : WS) : Prop where
  run : PSs X st (tS X.K X.mg J w)
/-- a value on its way to a slot: data, or a thing just made that nobody owns yet -/
structure NeOk (K : PySem.W.Frag) (mg : Str → Option Value) (J : GJ) (pr : Hp) (env : En) (σ : L2.St) (F H : Hp) (v : V) (s : Sl) : Prop where
  ok : SlOk K mg J pr F H (some v) s
  al : s.isOwn = true → ∀ (i : Nat) (t : Sl), env[i]? = some t → t.isOwn = true → σ[i]? ≠ some (some v)
def tV (K : PySem.W.Frag) (mg : Str → Option Value) (J : GJ) (w : WV) : TE := fun σ H Q => ∃ (pr : Hp) (env : En) (F : Hp) (q : Sl → En → Prop), Rep K mg J pr env σ F H ∧ w env q ∧
  ∀ s env' v F' H', Rep K mg J pr env' σ F' H' → Same F F' → NeOk K mg J pr env' σ F' H' v s → q s env' → Q v H'
structure DV (X : Cx) (J : GJ) (e : Expr) (w : WV) : Prop where
  run : PE X e (tV X.K X.mg J w)

section
variable {K : PySem.W.Frag} {mg : Str → Option Value} {J : GJ} {pr F F' H H' : Hp} {env : En} {σ : L2.St} {v : V} {s : Sl}
theorem LeE.mono {E : DEnds} {Z : Ends} (h : LeE K mg J pr F E Z) (s : Same F F') : LeE K mg J pr F' E Z :=
  ⟨fun e σ F H R t => h.nx e σ F H R (s.trans t), fun d v e σ F H R t => h.rt d v e σ F H R (s.trans t), fun e σ F H R t => h.bk e σ F H R (s.trans t), fun e σ F H R t => h.ct e σ F H R (s.trans t)⟩
theorem Rep.put (R : Rep K mg J pr env σ F H) {i : Nat} (h : NeOk K mg J pr env σ F H v s) : Rep K mg J pr (env.set i s) (σ.set i (some v)) F H := by
  refine ⟨R.st, by rw [List.length_set, List.length_set]; exact R.len, fun j t o e1 e2 => ?_, fun j k t t' ne e1 e2 ht ht' => ?_⟩
  · by_cases hj : i = j
    · subst hj
      obtain ⟨hl, e1⟩ := List.getElem?_eq_some_iff.mp e1
      obtain ⟨hl', e2⟩ := List.getElem?_eq_some_iff.mp e2
      simp only [List.getElem_set_self] at e1 e2
      subst e1 e2
      exact h.ok
    · rw [List.getElem?_set_ne hj] at e1 e2
      exact R.sl j t o e1 e2
  · have here : ∀ {j : Nat} {t : Sl}, (env.set i s)[j]? = some t → i = j → (σ.set i (some v))[j]? = some (some v) ∧ t = s := fun {j t} ej hj => by
      subst hj
      obtain ⟨hl, ej⟩ := List.getElem?_eq_some_iff.mp ej
      simp only [List.getElem_set_self] at ej
      rw [List.length_set] at hl
      exact ⟨List.getElem?_set_self (by rw [← R.len]; exact hl), ej.symm⟩
    by_cases hj : i = j
    · have hk : i ≠ k := fun z => ne (hj.symm.trans z)
      obtain ⟨f1, rfl⟩ := here e1 hj
      rw [f1, List.getElem?_set_ne hk]
      rw [List.getElem?_set_ne hk] at e2
      exact fun z => h.al ht k t' e2 ht' z.symm
    · rw [List.getElem?_set_ne hj] at e1
      rw [List.getElem?_set_ne hj]
      by_cases hk : i = k
      · obtain ⟨g1, rfl⟩ := here e2 hk
        rw [g1]
        exact h.al ht' j t e1 ht
      · rw [List.getElem?_set_ne hk] at e2
        rw [List.getElem?_set_ne hk]
        exact R.dis j k t t' ne e1 e2 ht ht'
theorem NeOk.val {d : D} (h : Is K mg F v d) : NeOk K mg J pr env σ F H v (.val d) := ⟨⟨v, rfl, h⟩, fun z => by cases z⟩
/-- an owned object, its address and content -/
theorem SlOk.obj (h : SlOk K mg J pr F H (some v) s) (hs : s.isOwn = true) : ∃ p o, v = .ref p ∧ H p = some o ∧ Mine J pr F p ∧ NT o := by
  cases s with
  | no => cases hs
  | val d => cases hs
  | own xs =>
    obtain ⟨p, vs, e, h1, _, m⟩ := h
    cases e
    exact ⟨p, _, rfl, h1, m, nt_lst⟩
  | lat a0 xs =>
    obtain ⟨p, vs, e, h1, _, m⟩ := h
    cases e
    exact ⟨p, _, rfl, h1, m, nt_lst⟩
  | dk xs =>
    obtain ⟨p, vs, e, h1, _, m⟩ := h
    cases e
    exact ⟨p, _, rfl, h1, m, nt_dK⟩
  | dt xs =>
    obtain ⟨p, vs, e, h1, _, m⟩ := h
    cases e
    exact ⟨p, _, rfl, h1, m, nt_dT⟩
/-- the same thing later on: its object stands, nothing of it was laid down -/
theorem SlOk.later {pr' : Hp} (h : SlOk K mg J pr F H (some v) s) (ff : Same F F') (hh : ∀ p o, v = .ref p → H p = some o → H' p = some o) (m : ∀ p, v = .ref p → Mine J pr F p → Mine J pr' F' p) : SlOk K mg J pr' F' H' (some v) s := by
  cases s with
  | no => trivial
  | val d =>
    obtain ⟨u, e, i⟩ := h
    exact ⟨u, e, i.mono ff⟩
  | own xs =>
    obtain ⟨p, vs, e, h1, i, mm⟩ := h
    exact ⟨p, vs, e, hh p _ (Option.some.inj e) h1, i.mono ff, m p (Option.some.inj e) mm⟩
  | lat a0 xs =>
    obtain ⟨p, vs, e, h1, i, mm⟩ := h
    exact ⟨p, vs, e, hh p _ (Option.some.inj e) h1, i.mono ff, m p (Option.some.inj e) mm⟩
  | dk xs =>
    obtain ⟨p, vs, e, h1, i, mm⟩ := h
    exact ⟨p, vs, e, hh p _ (Option.some.inj e) h1, i.mono ff, m p (Option.some.inj e) mm⟩
  | dt xs =>
    obtain ⟨p, vs, e, h1, i, mm⟩ := h
    exact ⟨p, vs, e, hh p _ (Option.some.inj e) h1, i.mono ff, m p (Option.some.inj e) mm⟩
end

/-! ### values for slots -/
@[simp] def wVal (w : WE) : WV := fun env q => w env fun d e1 => q (.val d) e1
@[simp] def wNewL (w : WA) : WV := fun env q => w env fun as e1 => ∃ ds, reals as = some ds ∧ ds.length ≤ 1000 ∧ q (.own ds) e1
@[simp] def wNewK : WV := fun env q => q (.dk []) env
@[simp] def wNewT : WV := fun env q => q (.dt []) env
@[simp] def wNewLC (vs : List Nat) (wi : WI) (g : WG) (tt : WT) (te : WE) : WV := fun env q => wi env fun xs e1 => freeE e1 vs ∧ lcGo vs g tt te (fun acc e => q (.own acc) (backE e1 e vs)) xs [] (wipeE e1 vs)
section
variable {X : Cx} {J : GJ} {e : Expr} {es : List Expr} {we : WE} {w : WA} {pos : Pos}
theorem dv_of (h : DE X J e we) : DV X J e (wVal we) :=
  ⟨PE.imp h.x fun σ H Q ⟨pr, env, F, q, R, hw, k⟩ => ⟨pr, env, F, _, R, hw, fun d env' v F' H' R' s i hq => k _ env' v F' H' R' s (.val i) hq⟩⟩
theorem dv_lst (h : DA X J es w) : DV X J (.List es pos) (wNewL w) := by
  refine ⟨⟨fun pins s σ H Q I ⟨pr, env, F, q, R, hw, k⟩ => (pe_lst (h.run pr)).run pins s σ H Q I ⟨env, F, _, R, hw, fun as e1 vs F1 H1 R1 s1 i1 ⟨ds, h1, hl, hq⟩ => ?_⟩⟩⟩
  have ia := i1.real h1
  refine ⟨by rw [ia.length, sizeLine_eq]; omega, fun p n => ?_⟩
  obtain ⟨m, al⟩ := R1.apart n
  exact k (.own ds) e1 _ F1 _ (R1.stp (R1.st.made n)) s1 ⟨⟨p, vs, rfl, upd_same, ia, m⟩, fun _ => al⟩ hq
theorem dv_dK : DV X J (.Dict [] [] pos) wNewK := by
  refine ⟨PE.imp pe_dnewK fun σ H Q ⟨pr, env, F, q, R, hw, k⟩ => fun p n => ?_⟩
  obtain ⟨m, al⟩ := R.apart n
  exact k (.dk []) env _ F _ (R.stp (R.st.made n)) (Same.refl _) ⟨⟨p, [], rfl, upd_same, .nil, m⟩, fun _ => al⟩ hw
theorem dv_dT : DV X J (.Dict [] [] pos) wNewT := by
  refine ⟨PE.imp pe_dnewT fun σ H Q ⟨pr, env, F, q, R, hw, k⟩ => fun p n => ?_⟩
  obtain ⟨m, al⟩ := R.apart n
  exact k (.dt []) env _ F _ (R.stp (R.st.made n)) (Same.refl _) ⟨⟨p, [], rfl, upd_same, .nil, m⟩, fun _ => al⟩ hw
theorem new_own {K : PySem.W.Frag} {mg : Str → Option Value} {σ : L2.St} {pr F : Hp} {q : Sl → En → Prop} {Q : VK} (k : ∀ s env' v F' H', Rep K mg J pr env' σ F' H' → Same F F' → NeOk K mg J pr env' σ F' H' v s → q s env' → Q v H') : tNew K mg J σ pr F (fun acc e => q (.own acc) e) Q :=
  fun acc env' va D F' H' R s h m al ia hq => k (.own acc) env' _ F' H' R s ⟨⟨D, va, rfl, h, ia, m⟩, fun _ => al⟩ hq
end
section
variable {X : Cx} {J : GJ} {elt tg iter : Expr} {ifs : List Expr} {scope : Scope} {own : List (Str × Nat)} {pos : Pos} {wi : WI} {g : WG} {tt : WT} {te : WE}
theorem dv_lc (hc : X.calm = true) (hN : X.N.Nodup) (hi : DI X J tg iter wi) (ok : BlkOk X.N X.env.scope scope own) (hg : InBlk X scope fun Y => DG Y J tg (own.map (·.2)) g) (ht : InBlk X scope fun Y => DTs Y J ifs tt) (he : InBlk X scope fun Y => DE Y J elt te)
    (hs : ∀ x, foldedSetIterable iter X.env x = pure x := by intro _; rfl) : DV X J (.ListComp elt [⟨tg, iter, ifs, 0⟩] scope pos) (wNewLC (own.map (·.2)) wi g tt te) :=
  ⟨PE.imp (pe_lc hc hN hi.run ok (fun s H C cl fp => (hg s H C cl fp).run) (fun s H C cl fp => (ht s H C cl fp).x) (fun s H C cl fp => (he s H C cl fp).x) hs) fun σ H Q ⟨pr, env, F, q, R, hw, k⟩ => lc_of R hw (new_own k)⟩
end

/-! ### blocks, stores, returns -/
@[simp] def sNil : WS := fun env E => E.nx env
@[simp] def sSeq (w u : WS) : WS := fun env E => w env { E with nx := fun e => u e E }
@[simp] def sSet (i : Nat) (w : WV) : WS := fun env E => w env fun s e1 => E.nx (e1.set i s)
@[simp] def sRet (w : WE) : WS := fun env E => w env fun d e1 => E.rt d e1
@[simp] def sRetN : WS := fun env E => E.rt .non env
@[simp] def sIf (t : WT) (w u : WS) : WS := fun env E => t env fun b e1 => if b = true then w e1 E else u e1 E
@[simp] def sDrop (w : WE) : WS := fun env E => w env fun _ e1 => E.nx e1
@[simp] def sNever : WS := fun _ _ => False
@[simp] def sBreak : WS := fun env E => E.bk env
@[simp] def sCont : WS := fun env E => E.ct env
section
variable {X : Cx} {J : GJ} {st : Stmt} {rest : List Stmt} {e : Expr} {w u : WS} {we : WE} {wv : WV} {wt : WT} {pos : Pos}
theorem PS.imp {t t' : TS} (h : PS X st t) (i : ∀ Z σ H, t' Z σ H → t Z σ H) : PS X st t' := ⟨fun pins s σ H Z I q => h.run pins s σ H Z I (i _ _ _ q)⟩
theorem PSs.imp {t t' : TS} (h : PSs X rest t) (i : ∀ Z σ H, t' Z σ H → t Z σ H) : PSs X rest t' := ⟨fun pins s σ H Z I q => h.run pins s σ H Z I (i _ _ _ q)⟩
theorem dss_nil : DSs X J [] sNil := ⟨PSs.imp pss_nil fun Z σ H ⟨pr, env, F, E, R, hw, le⟩ => le.nx env σ F H R (Same.refl _) hw⟩
theorem dss_cons (h : DS X J st w) (h' : DSs X J rest u) : DSs X J (st :: rest) (sSeq w u) :=
  ⟨PSs.imp (pss_cons h.run h'.run) fun Z σ H ⟨pr, env, F, E, R, hw, le⟩ => ⟨pr, env, F, _, R, hw, ⟨fun e' σ' F' H' R' s hq => ⟨pr, e', F', E, R', hq, le.mono s⟩, le.rt, le.bk, le.ct⟩⟩⟩
theorem dss_one (h : DS X J st w) : DSs X J [st] w := ⟨pss_one h.run⟩
theorem ds_set {i : Nat} {x : Str} {p : Pos} (hN : X.N.Nodup) (hi : X.N[i]? = some x) (hx : Loc X.env.scope x) (h : DV X J e wv) (hs : swapsWith e (some (.Name x p)) pos.line X.env = pure false := by rfl)
    (hf : X.fn x = true ∨ X.env.scope.names.lookup x = some .local := by first | exact .inl rfl | exact .inr rfl | assumption) : DS X J (.Assign [.Name x p] e pos) (sSet i wv) :=
  ⟨PS.imp (ps_set hN hi hx h.run hs hf) fun Z σ H ⟨pr, env, F, E, R, hw, le⟩ => ⟨pr, env, F, _, R, hw, fun s e1 v F1 H1 R1 s1 n hq => le.nx _ _ F1 H1 (R1.put n) s1 hq⟩⟩
theorem ds_ret (h : DE X J e we) : DS X J (.Return (some e) pos) (sRet we) :=
  ⟨PS.imp (ps_ret h.x) fun Z σ H ⟨pr, env, F, E, R, hw, le⟩ => ⟨pr, env, F, _, R, hw, fun d e1 v F1 H1 R1 s1 i hq => le.rt d v e1 σ F1 H1 R1 s1 i hq⟩⟩
theorem ds_retN : DS X J (.Return none pos) sRetN := ⟨PS.imp ps_retN fun Z σ H ⟨pr, env, F, E, R, hw, le⟩ => le.rt .non .non env σ F H R (Same.refl _) .non hw⟩
theorem xT_of {c : Expr} {wt : WT} (h : DT X J c wt) : PT X c (xT X.K X.mg J wt) := ⟨fun pins s σ H Q I ⟨pr, q⟩ => (h.run pr).run pins s σ H Q I q⟩
theorem ds_if {c : Expr} {a b : List Stmt} (hc : DT X J c wt) (ha : DSs X J a w) (hb : DSs X J b u) : DS X J (.If c a b pos) (sIf wt w u) := by
  refine ⟨PS.imp (ps_if (xT_of hc) ha.run hb.run) fun Z σ H ⟨pr, env, F, E, R, hw, le⟩ => ⟨pr, env, F, _, R, hw, fun b e1 F1 H1 R1 s1 hq => ?_⟩⟩
  cases b with
  | true => exact ⟨pr, e1, F1, E, R1, hq, le.mono s1⟩
  | false => exact ⟨pr, e1, F1, E, R1, hq, le.mono s1⟩
theorem ds_expr (h : DE X J e we) (hs : swapsWith e none pos.line X.env = pure false := by rfl) : DS X J (.Expr e pos) (sDrop we) :=
  ⟨PS.imp (ps_expr h.x hs) fun Z σ H ⟨pr, env, F, E, R, hw, le⟩ => ⟨pr, env, F, _, R, hw, fun d e1 v F1 H1 R1 s1 i hq => le.nx e1 σ F1 H1 R1 s1 hq⟩⟩
theorem ds_never : DS X J st sNever := ⟨PS.imp ps_never fun Z σ H ⟨pr, env, F, E, R, hw, le⟩ => hw.elim⟩
theorem dss_never : DSs X J rest sNever := ⟨PSs.imp pss_never fun Z σ H ⟨pr, env, F, E, R, hw, le⟩ => hw.elim⟩
theorem ds_break : DS X J (.Break pos) sBreak := ⟨PS.imp ps_break fun Z σ H ⟨pr, env, F, E, R, hw, le⟩ => le.bk env σ F H R (Same.refl _) hw⟩
theorem ds_cont : DS X J (.Continue pos) sCont := ⟨PS.imp ps_continue fun Z σ H ⟨pr, env, F, E, R, hw, le⟩ => le.ct env σ F H R (Same.refl _) hw⟩
end
section
variable {X : Cx} {J : GJ} {elt tg iter tg1 iter1 : Expr} {ifs ifs1 : List Expr} {scope : Scope} {own : List (Str × Nat)} {vs1 : List Nat} {pos spos py : Pos} {wi wi1 : WI} {g g1 : WG} {tt tt1 : WT} {te : WE} {i : Nat} {y : Str}
theorem ds_setLc (hc : X.calm = true) (hN : X.N.Nodup) (hy : X.N[i]? = some y) (hyl : X.env.scope.names.lookup y = some .local) (hsw : swapsWith (.ListComp elt [⟨tg, iter, ifs, 0⟩] scope pos) (some (.Name y py)) spos.line X.env = pure true)
    (hi : DI X J tg iter wi) (ok : BlkOk X.N X.env.scope scope own) (hg : InBlk X scope fun Y => DG Y J tg (own.map (·.2)) g) (ht : InBlk X scope fun Y => DTs Y J ifs tt) (he : InBlk X scope fun Y => DE Y J elt te)
    (hs : ∀ x, foldedSetIterable iter X.env x = pure x := by intro _; rfl) : DS X J (.Assign [.Name y py] (.ListComp elt [⟨tg, iter, ifs, 0⟩] scope pos) spos) (sSet i (wVal (wLC (own.map (·.2)) wi g tt te))) :=
  ⟨PS.imp (ps_setLc hc hN hy hyl hsw hi.run ok (fun s H C cl fp => (hg s H C cl fp).run) (fun s H C cl fp => (ht s H C cl fp).x) (fun s H C cl fp => (he s H C cl fp).x) hs) fun Z σ H ⟨pr, env, F, E, R, hw, le⟩ =>
    lc_of R hw (new_frz (q := fun d e1 => E.nx (e1.set i (.val d))) fun d e1 v F1 H1 R1 s1 iv hq => le.nx _ _ F1 H1 (R1.store iv) s1 hq)⟩
theorem ds_setLcO (hc : X.calm = true) (hN : X.N.Nodup) (hy : X.N[i]? = some y) (hyl : X.env.scope.names.lookup y = some .local) (hsw : swapsWith (.ListComp elt [⟨tg, iter, ifs, 0⟩] scope pos) (some (.Name y py)) spos.line X.env = pure true)
    (hi : DI X J tg iter wi) (ok : BlkOk X.N X.env.scope scope own) (hg : InBlk X scope fun Y => DG Y J tg (own.map (·.2)) g) (ht : InBlk X scope fun Y => DTs Y J ifs tt) (he : InBlk X scope fun Y => DE Y J elt te)
    (hs : ∀ x, foldedSetIterable iter X.env x = pure x := by intro _; rfl) : DS X J (.Assign [.Name y py] (.ListComp elt [⟨tg, iter, ifs, 0⟩] scope pos) spos) (sSet i (wNewLC (own.map (·.2)) wi g tt te)) :=
  ⟨PS.imp (ps_setLc hc hN hy hyl hsw hi.run ok (fun s H C cl fp => (hg s H C cl fp).run) (fun s H C cl fp => (ht s H C cl fp).x) (fun s H C cl fp => (he s H C cl fp).x) hs) fun Z σ H ⟨pr, env, F, E, R, hw, le⟩ =>
    lc_of (fin := fun acc e1 => E.nx (e1.set i (.own acc))) R hw (new_own (q := fun s e1 => E.nx (e1.set i s)) fun s e1 v F1 H1 R1 s1 n hq => le.nx _ _ F1 H1 (R1.put n) s1 hq)⟩
theorem ds_setLc2 (hc : X.calm = true) (hN : X.N.Nodup) (hy : X.N[i]? = some y) (hyl : X.env.scope.names.lookup y = some .local) (hsw : swapsWith (.ListComp elt [⟨tg, iter, ifs, 0⟩, ⟨tg1, iter1, ifs1, 0⟩] scope pos) (some (.Name y py)) spos.line X.env = pure true)
    (hi : DI X J tg iter wi) (ok : BlkOk X.N X.env.scope scope own) (hv : ∀ i ∈ vs1, i ∈ own.map (·.2)) (hg : InBlk X scope fun Y => DG Y J tg (own.map (·.2)) g) (ht : InBlk X scope fun Y => DTs Y J ifs tt)
    (hi1 : InBlk X scope fun Y => DI Y J tg1 iter1 wi1) (hg1 : InBlk X scope fun Y => DG Y J tg1 vs1 g1) (ht1 : InBlk X scope fun Y => DTs Y J ifs1 tt1) (he : InBlk X scope fun Y => DE Y J elt te)
    (hs : ∀ x, foldedSetIterable iter X.env x = pure x := by intro _; rfl) (hs1 : ∀ env x, foldedSetIterable iter1 env x = pure x := by intro _ _; rfl) :
    DS X J (.Assign [.Name y py] (.ListComp elt [⟨tg, iter, ifs, 0⟩, ⟨tg1, iter1, ifs1, 0⟩] scope pos) spos) (sSet i (wVal (wLC2 (own.map (·.2)) vs1 wi g tt wi1 g1 tt1 te))) :=
  ⟨PS.imp (ps_setLc2 hc hN hy hyl hsw hi.run ok hv (fun s H C cl fp => (hg s H C cl fp).run) (fun s H C cl fp => (ht s H C cl fp).x) (fun s H C cl fp => (hi1 s H C cl fp).run) (fun s H C cl fp => (hg1 s H C cl fp).run) (fun s H C cl fp => (ht1 s H C cl fp).x) (fun s H C cl fp => (he s H C cl fp).x) hs hs1)
    fun Z σ H ⟨pr, env, F, E, R, hw, le⟩ => lc2_of hv R hw (new_frz (q := fun d e1 => E.nx (e1.set i (.val d))) fun d e1 v F1 H1 R1 s1 iv hq => le.nx _ _ F1 H1 (R1.store iv) s1 hq)⟩
end

/-! ### a, b = x, y -/
@[simp] def sPar (i j : Nat) (wa wb : WV) : WS := fun env E => wa env fun s e1 => wb e1 fun t e2 => E.nx ((e2.set i s).set j t)
section
variable {X : Cx} {J : GJ}
/-- two values made one behind the other, then stored -/
theorem par_of {i j : Nat} {wa wb : WV} {Z : L2.St → Hp → Prop} {σ : L2.St} {H : Hp} {pr : Hp} {env : En} {F : Hp} {nx : En → Prop} (hij : i ≠ j) (R : Rep X.K X.mg J pr env σ F H) (hw : wa env fun s e1 => wb e1 fun t e2 => nx ((e2.set i s).set j t))
    (le : ∀ env' σ' F' H', Rep X.K X.mg J pr env' σ' F' H' → Same F F' → nx env' → Z σ' H') :
    tV X.K X.mg J wa σ H fun x H1 => tV X.K X.mg J wb σ H1 fun y H2 => ∀ H3, (∀ b o, H2 b = some o → H3 b = some o) → (∀ b, J.mt b → H3 b = H2 b) → Z ((σ.set i (some x)).set j (some y)) H3 := by
  refine ⟨pr, env, F, _, R, hw, fun s e1 x F1 H1 R1 s1 n1 hq => ?_⟩
  -- while the second is made, the first is somebody's
  have fin : ∀ (t : Sl) (e2 : En) (y : V) (F2 H2 : Hp), Rep X.K X.mg J pr e2 σ F2 H2 → Same F F2 → NeOk X.K X.mg J pr e2 σ F2 H2 x s → NeOk X.K X.mg J pr (e2.set i s) (σ.set i (some x)) F2 H2 y t → nx ((e2.set i s).set j t) →
      ∀ H3, (∀ b o, H2 b = some o → H3 b = some o) → (∀ b, J.mt b → H3 b = H2 b) → Z ((σ.set i (some x)).set j (some y)) H3 := fun t e2 y F2 H2 R2 s2 nx' ny hq2 H3 up mt => by
    have R3 := (R2.put (i := i) nx').put (i := j) ny
    have st3 : Stp J pr F2 H2 F2 H3 := ⟨⟨fun b o e => up b o (R2.st.sub b o e), fun b o e => ⟨up b o (R2.st.prk b o e).1, (R2.st.prk b o e).2⟩, J.stay _ _ _ _ R2.st.inv (Same.refl _) mt (fun b φ h => up b _ h), R2.st.mtF, R2.st.nt⟩, Same.refl _, fun b o _ _ e => up b o e, fun b o _ e f => f⟩
    exact le _ _ F2 H3 (R3.stp st3) s2 hq2
  by_cases hs : s.isOwn = true
  · obtain ⟨p, o, rfl, hp, m, nto⟩ := n1.ok.obj hs
    refine ⟨_, e1, F1, _, R1.more hp m nto (fun k t e ht => n1.al hs k t e ht), hq, fun t e2 y F2 H2 R2 s2 n2 hq2 => ?_⟩
    obtain ⟨R3, hp2, m2, al2⟩ := R2.less m.q
    have nx' : NeOk X.K X.mg J pr e2 σ F2 H2 (.ref p) s := by
      refine ⟨n1.ok.later s2 (fun p' o' e h => ?_) (fun p' e _ => ?_), fun _ => al2⟩
      · cases e
        rw [hp] at h
        cases h
        exact hp2
      · cases e
        exact m2
    refine fin t e2 y F2 H2 R3 (s1.trans s2) nx' ⟨n2.ok.later (Same.refl _) (fun _ _ _ h => h) (fun p' e mm => ⟨mm.f, ?_, mm.m⟩), fun ht k u e hu z => ?_⟩ hq2
    · have q := mm.q
      have ne : p' ≠ p := fun z => by
        subst z
        rw [upd_same] at q
        cases q
      rwa [upd_ne ne] at q
    · by_cases hk : i = k
      · subst hk
        obtain ⟨hl, e⟩ := List.getElem?_eq_some_iff.mp e
        rw [List.length_set] at hl
        rw [List.getElem?_set_self (by rw [← R2.len]; exact hl)] at z
        have z := Option.some.inj (Option.some.inj z)
        obtain ⟨p', o', e', h', mm, _⟩ := n2.ok.obj ht
        rw [e'] at z
        cases z
        have q := mm.q
        rw [upd_same] at q
        cases q
      · rw [List.getElem?_set_ne hk] at e z
        exact n2.al ht k u e hu z
  · refine ⟨pr, e1, F1, _, R1, hq, fun t e2 y F2 H2 R2 s2 n2 hq2 => ?_⟩
    have nx' : NeOk X.K X.mg J pr e2 σ F2 H2 x s := by
      refine ⟨?_, fun z => absurd z hs⟩
      have h := n1.ok
      cases s with
      | no => trivial
      | val d =>
        obtain ⟨u, e, iu⟩ := h
        exact ⟨u, e, iu.mono s2⟩
      | own _ => exact absurd rfl hs
      | lat _ _ => exact absurd rfl hs
      | dk _ => exact absurd rfl hs
      | dt _ => exact absurd rfl hs
    refine fin t e2 y F2 H2 R2 (s1.trans s2) nx' ⟨n2.ok, fun ht k u e hu z => ?_⟩ hq2
    by_cases hk : i = k
    · subst hk
      obtain ⟨hl, e⟩ := List.getElem?_eq_some_iff.mp e
      simp only [List.getElem_set_self] at e
      subst e
      exact hs hu
    · rw [List.getElem?_set_ne hk] at e z
      exact n2.al ht k u e hu z
theorem ds_par {i j : Nat} {x y : Str} {a b : Expr} {px py pt pos : Pos} {kt k2 pt2} {wa wb : WV} (hc : X.calm = true) (hN : X.N.Nodup) (hi : X.N[i]? = some x) (hj : X.N[j]? = some y) (hij : i ≠ j)
    (hx : X.env.scope.names.lookup x = some .local) (hy : X.env.scope.names.lookup y = some .local) (ha : DV X J a wa) (hb : DV X J b wb)
    (hw : swappedStores [.Tuple [.Name x px, .Name y py] kt pt] (.Tuple [a, b] k2 pt2) X.env = pure (some [x, y]))
    (hs : swapsWithSole [.Tuple [.Name x px, .Name y py] kt pt] (.Tuple [a, b] k2 pt2) pos.line X.env = pure false := by rfl)
    (h1 : starEach (a :: [b]) X.env = (false, eval a X.env) :: starEach [b] X.env := by rfl) (h2 : starEach (b :: []) X.env = (false, eval b X.env) :: starEach [] X.env := by rfl) :
    DS X J (.Assign [.Tuple [.Name x px, .Name y py] kt pt] (.Tuple [a, b] k2 pt2) pos) (sPar i j wa wb) := by
  refine ⟨PS.imp (ps_par hc hN hi hj hij hx hy (pa_cons ha.run (pa_cons hb.run pa_nil h2) h1) hw hs) fun Z σ H ⟨pr, env, F, E, R, hw, le⟩ => ?_⟩
  have h := par_of (X := X) (Z := Z.nx) hij R hw le.nx
  obtain ⟨pr1, en1, F1, q1, R1, w1, k1⟩ := h
  refine ⟨pr1, en1, F1, q1, R1, w1, fun s e1 v F' H' R' s' n hq => ?_⟩
  obtain ⟨pr2, en2, F2, q2, R2, w2, k2⟩ := k1 s e1 v F' H' R' s' n hq
  refine ⟨pr2, en2, F2, q2, R2, w2, fun s e1 u F'' H'' R'' s'' n' hq' => ?_⟩
  exact ⟨v, u, rfl, k2 s e1 u F'' H'' R'' s'' n' hq' H'' (fun _ _ h => h) fun _ _ => rfl⟩
/-- the same where a tuple is made on the way -/
theorem ds_parT {i j : Nat} {x y : Str} {a b : Expr} {px py pt pos : Pos} {kt k2 pt2} {wa wb : WV} (hc : X.calm = true) (hN : X.N.Nodup) (hij : i ≠ j) (gx : PG X (.Name x px) (L2.gName i)) (gy : PG X (.Name y py) (L2.gName j)) (ha : DV X J a wa) (hb : DV X J b wb)
    (hs : swapsWithSole [.Tuple [.Name x px, .Name y py] kt pt] (.Tuple [a, b] k2 pt2) pos.line X.env = pure false := by rfl)
    (hw : swappedStores [.Tuple [.Name x px, .Name y py] kt pt] (.Tuple [a, b] k2 pt2) X.env = pure none := by rfl)
    (h0 : (assignEach [.Tuple [.Name x px, .Name y py] kt pt] X.env).map (·.2) = [assign (.Tuple [.Name x px, .Name y py] kt pt) X.env] := by rfl)
    (h1 : starEach (a :: [b]) X.env = (false, eval a X.env) :: starEach [b] X.env := by rfl) (h2 : starEach (b :: []) X.env = (false, eval b X.env) :: starEach [] X.env := by rfl)
    (hn : (assignEach [.Name x px, .Name y py] X.env).length = 2 := by rfl) (hst : (assignEach [.Name x px, .Name y py] X.env).findIdx? (·.1) = none := by rfl)
    (h3 : (assignEach (.Name x px :: [.Name y py]) X.env).map (·.2) = assign (.Name x px) X.env :: (assignEach [.Name y py] X.env).map (·.2) := by rfl) (h4 : (assignEach (.Name y py :: []) X.env).map (·.2) = assign (.Name y py) X.env :: (assignEach [] X.env).map (·.2) := by rfl) :
    DS X J (.Assign [.Tuple [.Name x px, .Name y py] kt pt] (.Tuple [a, b] k2 pt2) pos) (sPar i j wa wb) := by
  refine ⟨PS.imp (ps_asg (pe_tup (pa_cons ha.run (pa_cons hb.run pa_nil h2) h1)) (pg_tup hc (L2.pgs_cons gx (L2.pgs_cons gy L2.pgs_nil h4) h3) hn hst) hs hw h0) fun Z σ H ⟨pr, env, F, E, R, hw, le⟩ => ?_⟩
  have h := par_of (X := X) (Z := Z.nx) hij R hw le.nx
  obtain ⟨pr1, en1, F1, q1, R1, w1, k1⟩ := h
  refine ⟨pr1, en1, F1, q1, R1, w1, fun s e1 v F' H' R' s' n hq => ?_⟩
  obtain ⟨pr2, en2, F2, q2, R2, w2, k2⟩ := k1 s e1 v F' H' R' s' n hq
  refine ⟨pr2, en2, F2, q2, R2, w2, fun s e1 u F'' H'' R'' s'' n' hq' => ?_⟩
  refine ⟨by rw [sizeLine_eq]; show 2 ≤ 16777216; decide, fun t nt => ?_⟩
  refine ⟨t, [v, u], rfl, SqT.of upd_same, rfl, v, [u], rfl, u, [], rfl, rfl, ?_⟩
  exact k2 s e1 u F'' H'' R'' s'' n' hq' _ (fun b o h => by rw [upd_ne (ne_of_none h nt)]; exact h) fun b mt => upd_ne fun z => J.at_ F'' H'' b R''.st.inv mt (z ▸ nt)
end

/-! ### loops -/
def forGo (g : WG) (body : WS) (E : DEnds) : List D → En → Prop
  | [], env => E.nx env
  | x :: xs, env => g x env fun e2 => body e2 { E with nx := forGo g body E xs, ct := forGo g body E xs, bk := E.nx }
@[simp] def sFor (wi : WI) (g : WG) (body : WS) : WS := fun env E => wi env fun xs e1 => forGo g body E xs e1
def sWhile (c : WT) (body : WS) : WS := fun env E => ∃ P : Nat → En → Prop, (∃ m, P m env) ∧ ∀ m e, P m e → c e fun b e1 => if b = true then body e1 { E with nx := fun e2 => ∃ m', m' < m ∧ P m' e2, ct := fun e2 => ∃ m', m' < m ∧ P m' e2, bk := E.nx } else E.nx e1
section
variable {X : Cx} {J : GJ} {tg iter c : Expr} {body : List Stmt} {wi : WI} {g : WG} {w : WS} {wt : WT} {pos : Pos} {vs : List Nat}
theorem ds_for (hp : PassesOwn (model X.prog X.w) X.A X.env X.xe) (hc : X.calm = true) (hi : DI X J tg iter wi) (hg : DG X J tg vs g) (hb : DSs X J body w) (hs : ∀ x, foldedSetIterable iter X.env x = pure x := by intro _; rfl) : DS X J (.For tg iter body [] pos) (sFor wi g w) := by
  refine ⟨PS.imp (ps_for hp hc hi.run hg.run hb.run hs) fun Z σ H ⟨pr, env, F, E, R, hw, le⟩ => ⟨pr, env, F, _, R, hw, fun It xs e1 F1 H1 R1 s1 itok hgo => ?_⟩⟩
  refine ⟨fun i m σ' H' => ∃ e F', Rep X.K X.mg J pr e σ' F' H' ∧ Same F1 F' ∧ m = xs.length - i ∧ i ≤ xs.length ∧ forGo g w E (xs.drop i) e, ⟨xs.length, e1, F1, R1, Same.refl _, by omega, Nat.zero_le _, hgo⟩, ?_⟩
  rintro i m σ' H' ⟨e, F', R', s', rfl, hi, hg'⟩
  by_cases hlt : i < xs.length
  · refine .inr ⟨(itok pr).go i F' H' s' R'.st.sub hlt, fun σ2 H2 => ∃ m', m' < xs.length - i ∧ ∃ e F', Rep X.K X.mg J pr e σ2 F' H2 ∧ Same F1 F' ∧ m' = xs.length - (i + 1) ∧ i + 1 ≤ xs.length ∧ forGo g w E (xs.drop (i + 1)) e, fun _ _ h => h, fun x H2 hy => ?_⟩
    obtain ⟨F2, d, hd, t, ix⟩ := (itok pr).yld i F' H' x H2 s' R'.st hlt hy
    have hdr : xs.drop i = d :: xs.drop (i + 1) := by
      obtain ⟨hl, e⟩ := List.getElem?_eq_some_iff.mp hd
      rw [List.drop_eq_getElem_cons hl, e]
    rw [hdr] at hg'
    refine ⟨pr, e, F2, d, _, R'.stp t, ix, hg', fun e3 σ3 F3 H3 R3 s3 _ _ hq => ?_⟩
    have sF : Same F1 F3 := (s'.trans t.ff).trans s3
    have le' := le.mono (s1.trans sF)
    exact ⟨pr, e3, F3, _, R3, hq, ⟨fun e4 σ4 F4 H4 R4 s4 hq4 => ⟨xs.length - (i + 1), by omega, e4, F4, R4, sF.trans s4, rfl, by omega, hq4⟩, le'.rt, fun e4 σ4 F4 H4 R4 s4 hq4 => le'.nx e4 σ4 F4 H4 R4 s4 hq4,
      fun e4 σ4 F4 H4 R4 s4 hq4 => ⟨xs.length - (i + 1), by omega, e4, F4, R4, sF.trans s4, rfl, by omega, hq4⟩⟩⟩
  · have e0 : i = xs.length := by omega
    subst e0
    rw [List.drop_length] at hg'
    exact .inl ⟨(itok pr).stop _ F' H' s' R'.st.sub (Nat.le_refl _), le.nx e σ' F' H' R' (s1.trans s') hg'⟩
theorem ds_while (hp : PassesOwn (model X.prog X.w) X.A X.env X.xe) (hc : DT X J c wt) (hb : DSs X J body w) : DS X J (.While c body [] pos) (sWhile wt w) := by
  refine ⟨PS.imp (ps_while hp (xT_of hc) hb.run) fun Z σ H ⟨pr, env, F, E, R, ⟨P, ⟨m0, p0⟩, turn⟩, le⟩ => ?_⟩
  refine ⟨fun m σ' H' => ∃ e F', Rep X.K X.mg J pr e σ' F' H' ∧ Same F F' ∧ P m e, ⟨m0, env, F, R, Same.refl _, p0⟩, ?_⟩
  rintro m σ' H' ⟨e, F', R', s', hP⟩
  refine ⟨pr, e, F', _, R', turn m e hP, fun b e1 F1 H1 R1 s1 hq => ?_⟩
  have sF := s'.trans s1
  cases b with
  | true =>
    refine ⟨fun σ2 H2 => ∃ m', m' < m ∧ ∃ e F', Rep X.K X.mg J pr e σ2 F' H2 ∧ Same F F' ∧ P m' e, fun _ _ h => h, ?_⟩
    have le' := le.mono sF
    exact ⟨pr, e1, F1, _, R1, hq, ⟨fun e4 σ4 F4 H4 R4 s4 ⟨m', hm, hq4⟩ => ⟨m', hm, e4, F4, R4, sF.trans s4, hq4⟩, le'.rt, fun e4 σ4 F4 H4 R4 s4 hq4 => le'.nx e4 σ4 F4 H4 R4 s4 hq4, fun e4 σ4 F4 H4 R4 s4 ⟨m', hm, hq4⟩ => ⟨m', hm, e4, F4, R4, sF.trans s4, hq4⟩⟩⟩
  | false => exact le.nx e1 σ' F1 H1 R1 sF hq
end

/-! ### a def's promise -/
@[simp] def startE (N : List Str) (ds : List D) : En := ds.map Sl.val ++ List.replicate (N.length - ds.length) .no
theorem start_rep {K : PySem.W.Frag} {mg : Str → Option Value} {J : GJ} {pr F H : Hp} {N : List Str} {vs : List V} {ds : List D} (st : St8 J pr F H) (ia : IsA K mg F vs ds) : Rep K mg J pr (startE N ds) (L2.start N vs) F H := by
  refine ⟨st, ?_, fun i s o e1 e2 => ?_, fun i j s t ne e1 e2 hs ht => ?_⟩
  · unfold startE L2.start
    simp [ia.length]
  · unfold startE at e1
    unfold L2.start at e2
    by_cases hi : i < ds.length
    · rw [List.getElem?_append_left (by simpa using hi), List.getElem?_map, List.getElem?_eq_getElem hi] at e1
      cases e1
      obtain ⟨v, hv, iv⟩ := ia.get (List.getElem?_eq_getElem hi)
      rw [List.getElem?_append_left (by simpa [ia.length] using hi), List.getElem?_map, hv] at e2
      cases e2
      exact ⟨v, rfl, iv⟩
    · rw [List.getElem?_append_right (by simpa using Nat.le_of_not_lt hi), List.getElem?_replicate] at e1
      split at e1
      · cases e1
        trivial
      · cases e1
  · exfalso
    unfold startE at e1
    by_cases hi : i < ds.length
    · rw [List.getElem?_append_left (by simpa using hi), List.getElem?_map, List.getElem?_eq_getElem hi] at e1
      cases e1
      cases hs
    · rw [List.getElem?_append_right (by simpa using Nat.le_of_not_lt hi), List.getElem?_replicate] at e1
      split at e1
      · cases e1
        cases hs
      · cases e1
section
variable {g : Bool} {P : Program} {w : World} {K : PySem.W.Frag} {mg : Str → Option Value} {base : Heap}
theorem fn_Dk {k : Nat} {f : Addr} {x qual : Str} {st : Stmt} {N ps : List Str} {S : Spec} {wb : GJ → WS} {oc kV doc pm cd ct : Value} {od an : Option Addr} {osl : Array (Option Value)} (lk : K.lookup f = some ⟨oc, od, .func (PySem.W.fnOf x qual (defArgs st) (defBody st) (defScope st) .none kV doc pm an cd ct), osl⟩) (hcd : PySem.W.codeIn K cd qual = true) (Sc : FnScope N ps (defScope st))
    (body : ∀ (J : GJ) (A : Around) (outer : List Env) (s : Shared) (H : Hp) (E : XK), Rm g k (A.deeper (envOfC qual (defScope st) s.heap.objs.size f cd)) → (∃ ds q, S J ds q) → DSs (cxOf L2.CX0 P w K mg base N qual (defScope st) f cd A outer s H E).nox J (defBody st) (wb J))
    (ver : ∀ (J : GJ) (ds : List D) (q : D → Prop), ds.length = ps.length → S J ds q → wb J (startE N ds) { nx := fun _ => q .non, rt := fun d _ => q d }) : FnG g P w K mg base L2.CX0 (k + 1) f (PySem.W.fnOf x qual (defArgs st) (defBody st) (defScope st) .none kV doc pm an cd ct) ps (spD K mg S ps.length) := by
  refine fnG_lk lk hcd Sc (fun vs H Q E h => h.1) fun A outer s H vs Q E hr ⟨hl, J, pr, F, ds, q, st8, ia, hS, k⟩ => ?_
  have b := body J A outer s H E hr ⟨ds, q, hS⟩
  refine ⟨_, b.run.nox, ?_⟩
  have hv := ver J ds q (by rw [← ia.length]; exact hl) hS
  let pr' : Hp := fun b => open Classical in if F b = none ∧ ¬ J.mt b ∧ ∀ o, H b = some o → NT o then H b else none
  have pr1 : ∀ b o, F b = none → ¬ J.mt b → NT o → H b = some o → pr' b = some o := fun b o h1 h2 h3 h4 => (if_pos ⟨h1, h2, fun o' e => by rw [h4] at e; cases e; exact h3⟩).trans h4
  have pr2 : ∀ b o, pr' b = some o → F b = none ∧ ¬ J.mt b ∧ H b = some o ∧ NT o := fun b o e => by
    have e : (open Classical in if F b = none ∧ ¬ J.mt b ∧ ∀ o, H b = some o → NT o then H b else none) = some o := e
    split at e
    · rename_i h
      exact ⟨h.1, h.2.1, e, h.2.2 o e⟩
    · cases e
  have st' : St8 J pr' F H := ⟨st8.sub, fun b o e => ⟨(pr2 b o e).2.2.1, (pr2 b o e).1⟩, st8.inv, fun b m => ⟨(st8.mtF b m).1, if_neg fun z => z.2.1 m⟩, fun b o e => e.elim (fun e => st8.nt b o (.inl e)) fun e => (pr2 b o e).2.2.2⟩
  have out : ∀ F' H', St8 J pr' F' H' → Same F F' → Stp J pr F H F' H' := fun F' H' s' ff => by
    have keep : ∀ b o, ¬ J.mt b → NT o → H b = some o → H' b = some o := fun b o m t e => by
      cases hF : F b with
      | none => exact (s'.prk b o (pr1 b o hF m t e)).1
      | some o' =>
        have e1 := st8.sub b o' hF
        rw [e] at e1
        cases e1
        exact s'.sub b o (ff b o hF)
    refine ⟨⟨s'.sub, fun b o e => ?_, s'.inv, fun b m => ⟨(s'.mtF b m).1, (st8.mtF b m).2⟩, fun b o e => e.elim (fun e => s'.nt b o (.inl e)) fun e => st8.nt b o (.inr e)⟩, ff, keep, fun b o t e f => ?_⟩
    · obtain ⟨h1, h2⟩ := st8.prk b o e
      have m : ¬ J.mt b := fun m => by
        rw [(st8.mtF b m).2] at e
        cases e
      exact s'.prk b o (pr1 b o h2 m (st8.nt b o (.inr e)) h1)
    · by_cases m : J.mt b
      · exact (s'.mtF b m).1
      · exact (s'.prk b o (pr1 b o f m t e)).2
  refine ⟨pr', startE N ds, F, _, start_rep st' ia, hv, ⟨fun e σ F' H' R s hq => k .non .non F' H' (out F' H' R.st s) .non hq, fun d v e σ F' H' R s i hq => k d v F' H' (out F' H' R.st s) i hq, fun _ _ _ _ _ _ h => h.elim, fun _ _ _ _ _ _ h => h.elim⟩⟩
/-- THE RULE for a def by data: its body's walk, and that its walk by data keeps the promise -/
theorem fn_D {k : Nat} {f : Addr} {x qual : Str} {st : Stmt} {fd : FuncData} {N ps : List Str} {S : Spec} {wb : GJ → WS} (Fu : L2.Fun K x qual st f fd) (Sc : FnScope N ps (defScope st))
    (body : ∀ (J : GJ) (cd : Value) (A : Around) (outer : List Env) (s : Shared) (H : Hp) (E : XK), Rm g k (A.deeper (envOfC qual (defScope st) s.heap.objs.size f cd)) → DSs (cxOf L2.CX0 P w K mg base N qual (defScope st) f cd A outer s H E).nox J (defBody st) (wb J))
    (ver : ∀ (J : GJ) (ds : List D) (q : D → Prop), ds.length = ps.length → S J ds q → wb J (startE N ds) { nx := fun _ => q .non, rt := fun d _ => q d }) : FnG g P w K mg base L2.CX0 (k + 1) f fd ps (spD K mg S ps.length) := by
  obtain ⟨oc, od, kV, doc, pm, an, cd, ct, osl, rfl, lk, hcd⟩ := Fu.ex
  exact fn_Dk lk hcd Sc (fun J A outer s H E hr _ => body J cd A outer s H E hr) ver
theorem cal_D {k : Nat} {f : Addr} {x : Str} {st : Stmt} {fd : FuncData} {N ps : List Str} {S : Spec} {wb : GJ → WS} (Fu : L2.Fun K x x st f fd) (Sc : FnScope N ps (defScope st)) (hm : mg x = some (.ref f)) (hb : Binds K fd ps [])
    (body : ∀ (J : GJ) (cd : Value) (A : Around) (outer : List Env) (s : Shared) (H : Hp) (E : XK), Rm g k (A.deeper (envOfC x (defScope st) s.heap.objs.size f cd)) → DSs (cxOf L2.CX0 P w K mg base N x (defScope st) f cd A outer s H E).nox J (defBody st) (wb J))
    (ver : ∀ (J : GJ) (ds : List D) (q : D → Prop), ds.length = ps.length → S J ds q → wb J (startE N ds) { nx := fun _ => q .non, rt := fun d _ => q d }) : CalG g P w K mg base (k + 1) x S ps.length :=
  ⟨f, fd, ps, fn_D Fu Sc body ver, hm, Fu.kp, hb⟩
end
end DL

/-! DL8: own lists and dicts that change, sets' lengths, name op= value. -/
namespace DL
open PySem PySem.Spec PyProof.Rows L2

/-! ### own lists -/
@[simp] def wApp (i : Nat) (we : WE) : WE := fun env q => (∃ xs, env[i]? = some (.own xs)) ∧ we env fun d e1 => ∃ xs, e1[i]? = some (.own xs) ∧ xs.length < sizeLine ∧ q .non (e1.set i (.own (xs ++ [d])))
@[simp] def wExt (i : Nat) (we : WE) : WE := fun env q => (∃ xs, env[i]? = some (.own xs)) ∧ we env fun d e1 => ∃ xs ys, e1[i]? = some (.own xs) ∧ d = .lst ys ∧ xs.length + ys.length ≤ sizeLine ∧ q .non (e1.set i (.own (xs ++ ys)))
@[simp] def wPopAt (i : Nat) (we : WE) : WE := fun env q => (∃ xs, env[i]? = some (.own xs)) ∧ we env fun d e1 => ∃ xs j k y, e1[i]? = some (.own xs) ∧ d = .int j ∧ -(2 ^ 63) ≤ j ∧ j < 2 ^ 63 ∧ seqIndex? j xs.length = some k ∧ xs[k]? = some y ∧ q y (e1.set i (.own (xs.eraseIdx k)))
@[simp] def wPop (i : Nat) : WE := fun env q => ∃ xs y, env[i]? = some (.own xs) ∧ xs[xs.length - 1]? = some y ∧ q y (env.set i (.own xs.dropLast))
theorem IsA.dropLast {K : PySem.W.Frag} {mg : Str → Option Value} {F : Hp} {vs : List V} {xs : List D} (h : IsA K mg F vs xs) : IsA K mg F vs.dropLast xs.dropLast := by
  rw [List.dropLast_eq_take, List.dropLast_eq_take, h.length]
  exact h.take _
section
variable {X : Cx} {J : GJ} {o e : Expr} {we : WE} {apos cpos : Pos} {i : Nat}
theorem own_at {K : PySem.W.Frag} {mg : Str → Option Value} {pr F H : Hp} {env : En} {σ : L2.St} {xs : List D} (R : Rep K mg J pr env σ F H) (h : env[i]? = some (.own xs)) :
    ∃ p vs, σ[i]? = some (some (V.ref p)) ∧ H p = some (.lst vs) ∧ IsA K mg F vs xs ∧ Mine J pr F p := by
  obtain ⟨o, eo, p, vs, rfl, h1, h2, h3⟩ := R.at h
  exact ⟨p, vs, eo, h1, h2, h3⟩
theorem Rep.lset {K : PySem.W.Frag} {mg : Str → Option Value} {pr F H : Hp} {env : En} {σ : L2.St} {xs ys : List D} {p : Addr} {ws : List V} (R : Rep K mg J pr env σ F H) (h : env[i]? = some (.own xs)) (hp : σ[i]? = some (some (V.ref p))) (ia : IsA K mg F ws ys) : Rep K mg J pr (env.set i (.own ys)) σ F (upd H p (.lst ws)) := by
  obtain ⟨p', vs, e1, h1, h2, m⟩ := own_at R h
  rw [hp] at e1
  cases e1
  exact R.write h rfl hp m ⟨p, ws, rfl, upd_same, ia, m⟩
theorem de_app (ho : PE X o (tVar i)) (h : DE X J e we) (hbase : attributeBase o "append" X.env (eval o X.env) = eval o X.env := by rfl)
    (hfew : ((backTo cpos (starEach (e :: []) X.env)).all (fun x => !x.1) && (backToKw cpos (keywordEach [] X.env)).all (fun x => x.1.isSome) && decide ((e :: []).length + ([] : List Keyword).length + (if ([] : List Keyword).isEmpty then 0 else 1) < 30)) = true := by rfl)
    (hline : (apos.endLine == cpos.line) = true := by rfl) (hs : starEach (e :: []) X.env = (false, eval e X.env) :: starEach [] X.env := by rfl) (hplain : (backTo cpos (starEach [] X.env)).any (·.1) = false := by rfl) :
    DE X J (.Call (.Attribute o "append" apos) [e] [] cpos) (wApp i we) := by
  refine ⟨fun pr => PE.imp (pe_bm PySem.F.plainAttrs_list PySem.F.slot_list_append PySem.F.type_list_append mt_append ho (pa_cons h.x pa_nil hs) hbase hfew hline hs hplain) fun σ H Q ⟨env, F, q, R, ⟨⟨xs, hx⟩, hw⟩, k⟩ => ?_⟩
  obtain ⟨p, vs, e1, h1, h2, m⟩ := own_at R hx
  refine ⟨_, e1, .inl ⟨rfl, vs, SqL.of h1⟩, pr, env, F, _, R, hw, fun d e2 v F2 H2 R2 s2 i2 ⟨ys, hy, hl, hq⟩ => ?_⟩
  obtain ⟨p', ws, e3, h3, h4, m'⟩ := own_at R2 hy
  rw [e1] at e3
  cases e3
  exact ⟨p, ws, v, rfl, rfl, h3, by rw [h4.length]; exact hl, k _ _ _ F2 _ (R2.lset hy e1 (h4.append (.cons i2 .nil))) s2 .non hq⟩
theorem de_ext (ho : PE X o (tVar i)) (h : DE X J e we) (hbase : attributeBase o "extend" X.env (eval o X.env) = eval o X.env := by rfl)
    (hfew : ((backTo cpos (starEach (e :: []) X.env)).all (fun x => !x.1) && (backToKw cpos (keywordEach [] X.env)).all (fun x => x.1.isSome) && decide ((e :: []).length + ([] : List Keyword).length + (if ([] : List Keyword).isEmpty then 0 else 1) < 30)) = true := by rfl)
    (hline : (apos.endLine == cpos.line) = true := by rfl) (hs : starEach (e :: []) X.env = (false, eval e X.env) :: starEach [] X.env := by rfl) (hplain : (backTo cpos (starEach [] X.env)).any (·.1) = false := by rfl) :
    DE X J (.Call (.Attribute o "extend" apos) [e] [] cpos) (wExt i we) := by
  refine ⟨fun pr => PE.imp (pe_bm PySem.F.plainAttrs_list PySem.F.slot_list_extend PySem.F.type_list_extend mt_extend ho (pa_cons h.x pa_nil hs) hbase hfew hline hs hplain) fun σ H Q ⟨env, F, q, R, ⟨⟨xs, hx⟩, hw⟩, k⟩ => ?_⟩
  obtain ⟨p, vs, e1, h1, h2, m⟩ := own_at R hx
  refine ⟨_, e1, .inl ⟨rfl, vs, SqL.of h1⟩, pr, env, F, _, R, hw, fun d e2 v F2 H2 R2 s2 i2 ⟨ys, zs, hy, hd, hl, hq⟩ => ?_⟩
  subst hd
  obtain ⟨b, us, rfl, hb, ib⟩ := i2.lst_inv
  obtain ⟨p', ws, e3, h3, h4, m'⟩ := own_at R2 hy
  rw [e1] at e3
  cases e3
  exact ⟨p, b, ws, us, rfl, rfl, h3, R2.st.sub _ _ hb, by rw [h4.length, ib.length]; exact hl, k _ _ _ F2 _ (R2.lset hy e1 (h4.append ib)) s2 .non hq⟩
theorem de_popAt (ho : PE X o (tVar i)) (h : DE X J e we) (hbase : attributeBase o "pop" X.env (eval o X.env) = eval o X.env := by rfl)
    (hfew : ((backTo cpos (starEach (e :: []) X.env)).all (fun x => !x.1) && (backToKw cpos (keywordEach [] X.env)).all (fun x => x.1.isSome) && decide ((e :: []).length + ([] : List Keyword).length + (if ([] : List Keyword).isEmpty then 0 else 1) < 30)) = true := by rfl)
    (hline : (apos.endLine == cpos.line) = true := by rfl) (hs : starEach (e :: []) X.env = (false, eval e X.env) :: starEach [] X.env := by rfl) (hplain : (backTo cpos (starEach [] X.env)).any (·.1) = false := by rfl) :
    DE X J (.Call (.Attribute o "pop" apos) [e] [] cpos) (wPopAt i we) := by
  refine ⟨fun pr => PE.imp (pe_bm PySem.F.plainAttrs_list PySem.F.slot_list_pop PySem.F.type_list_pop mt_popAt ho (pa_cons h.x pa_nil hs) hbase hfew hline hs hplain) fun σ H Q ⟨env, F, q, R, ⟨⟨xs, hx⟩, hw⟩, k⟩ => ?_⟩
  obtain ⟨p, vs, e1, h1, h2, m⟩ := own_at R hx
  refine ⟨_, e1, .inl ⟨rfl, vs, SqL.of h1⟩, pr, env, F, _, R, hw, fun d e2 v F2 H2 R2 s2 i2 ⟨ys, j, l, y, hy, hd, b1, b2, hk, hg, hq⟩ => ?_⟩
  subst hd
  cases i2.int_inv
  obtain ⟨p', ws, e3, h3, h4, m'⟩ := own_at R2 hy
  rw [e1] at e3
  cases e3
  obtain ⟨z, hz, iz⟩ := h4.get hg
  exact ⟨p, ws, j, l, z, rfl, rfl, h3, b1, b2, by rw [h4.length]; exact hk, hz, k _ _ _ F2 _ (R2.lset hy e1 (h4.eraseIdx l)) s2 iz hq⟩
theorem de_pop (ho : PE X o (tVar i)) (hbase : attributeBase o "pop" X.env (eval o X.env) = eval o X.env := by rfl) (hline : (apos.endLine == cpos.line) = true := by rfl) : DE X J (.Call (.Attribute o "pop" apos) [] [] cpos) (wPop i) := by
  refine ⟨fun pr => PE.imp (pe_bm0 PySem.F.plainAttrs_list PySem.F.slot_list_pop PySem.F.type_list_pop mt_pop ho hbase hline) fun σ H Q ⟨env, F, q, R, ⟨xs, y, hx, hy, hq⟩, k⟩ => ?_⟩
  obtain ⟨p, vs, e1, h1, h2, m⟩ := own_at R hx
  obtain ⟨z, hz, iz⟩ := h2.get hy
  exact ⟨_, e1, .inl ⟨rfl, vs, SqL.of h1⟩, p, vs, z, rfl, rfl, h1, by rw [h2.length]; exact hz, k _ _ _ F _ (R.lset hx e1 h2.dropLast) (Same.refl _) iz hq⟩
end
/-- own[e] = value -/
@[simp] def gIxL (i : Nat) (we : WE) : WG := fun d env q => (∃ xs, env[i]? = some (.own xs)) ∧ we env fun x e1 => ∃ xs j k, e1[i]? = some (.own xs) ∧ x = .int j ∧ ixN xs.length j = some k ∧ q (e1.set i (.own (xs.set k d)))
section
variable {X : Cx} {J : GJ} {o e : Expr} {we : WE} {pos : Pos} {i : Nat}
theorem dg_ixL (ho : PE X o (tVar i)) (h : DE X J e we)
    (ha : ∀ v, assign (.Subscript o e pos) X.env v = (do
      let ov ← holding [v] (eval o X.env)
      let iv ← holding [v, ov] (eval e X.env)
      standAt pos
      holding [v, ov, iv] (setItem ov iv v)
      release [v, ov, iv] []) := by intro _; rfl) : DG X J (.Subscript o e pos) [] (gIxL i we) := by
  refine ⟨PG.imp (pg_sub ho h.x set_list ha) fun v σ H Q ⟨pr, env, F, d, q, R, iv, ⟨⟨xs, hx⟩, hw⟩, k⟩ => ?_⟩
  obtain ⟨p, vs, e1, h1, h2, m⟩ := own_at R hx
  refine ⟨_, e1, pr, env, F, _, R, hw, fun x e2 u F2 H2 R2 s2 i2 ⟨ys, j, l, hy, hd, hk, hq⟩ => ?_⟩
  subst hd
  cases i2.int_inv
  obtain ⟨p', ws, e3, h3, h4, m'⟩ := own_at R2 hy
  rw [e1] at e3
  cases e3
  exact ⟨p, ws, j, l, rfl, rfl, h3, by rw [h4.length]; exact hk, k _ σ F2 _ (R2.lset hy e1 (IsA.set l (iv.mono s2) h4)) s2 (fun _ _ => rfl) rfl hq⟩
end

/-- the same of a list whose address is known -/
@[simp] def gIxAt (i : Nat) (we : WE) : WG := fun d env q => (∃ a xs, env[i]? = some (.lat a xs)) ∧ we env fun x e1 => ∃ a xs j k, e1[i]? = some (.lat a xs) ∧ x = .int j ∧ ixN xs.length j = some k ∧ q (e1.set i (.lat a (xs.set k d)))
section
variable {X : Cx} {J : GJ} {o e : Expr} {we : WE} {pos : Pos} {i : Nat}
theorem lat_at {K : PySem.W.Frag} {mg : Str → Option Value} {pr F H : Hp} {env : En} {σ : L2.St} {xs : List D} {a : Addr} (R : Rep K mg J pr env σ F H) (h : env[i]? = some (.lat a xs)) :
    ∃ vs, σ[i]? = some (some (V.ref a)) ∧ H a = some (.lst vs) ∧ IsA K mg F vs xs ∧ Mine J pr F a := by
  obtain ⟨o, eo, p, vs, rfl, h1, ⟨h2, rfl⟩, h3⟩ := R.at h
  exact ⟨vs, eo, h1, h2, h3⟩
theorem dg_ixAt (ho : PE X o (tVar i)) (h : DE X J e we)
    (ha : ∀ v, assign (.Subscript o e pos) X.env v = (do
      let ov ← holding [v] (eval o X.env)
      let iv ← holding [v, ov] (eval e X.env)
      standAt pos
      holding [v, ov, iv] (setItem ov iv v)
      release [v, ov, iv] []) := by intro _; rfl) : DG X J (.Subscript o e pos) [] (gIxAt i we) := by
  refine ⟨PG.imp (pg_sub ho h.x set_list ha) fun v σ H Q ⟨pr, env, F, d, q, R, iv, ⟨⟨a, xs, hx⟩, hw⟩, k⟩ => ?_⟩
  obtain ⟨vs, e1, h1, h2, m⟩ := lat_at R hx
  refine ⟨_, e1, pr, env, F, _, R, hw, fun x e2 u F2 H2 R2 s2 i2 ⟨b, ys, j, l, hy, hd, hk, hq⟩ => ?_⟩
  subst hd
  cases i2.int_inv
  obtain ⟨ws, e3, h3, h4, m'⟩ := lat_at R2 hy
  rw [e1] at e3
  cases e3
  exact ⟨a, ws, j, l, rfl, rfl, h3, by rw [h4.length]; exact hk, k (e2.set i (.lat a (ys.set l d))) σ F2 _ (R2.write hy rfl e1 m' ⟨a, _, rfl, upd_same, ⟨IsA.set l (iv.mono s2) h4, rfl⟩, m'⟩) s2 (fun _ _ => rfl) rfl hq⟩
end

/-! ### dicts -/
section
variable {κ : Type} [DecidableEq κ]
def dLook (kvs : List (κ × D)) (k : κ) : Option D := (kvs.find? fun kv => decide (kv.1 = k)).map (·.2)
def dPut (kvs : List (κ × D)) (k : κ) (d : D) : List (κ × D) := if (kvs.any fun kv => decide (kv.1 = k)) = true then kvs.map (fun kv => if kv.1 = k then (kv.1, d) else kv) else kvs ++ [(k, d)]
variable {K : PySem.W.Frag} {mg : Str → Option Value} {F : Hp}
theorem IsKV.look {ws : List (κ × V)} {kvs : List (κ × D)} (h : IsKV K mg F ws kvs) (k : κ) : (∀ d, dLook kvs k = some d → ∃ v, valV ws k = some v ∧ Is K mg F v d) ∧ (dLook kvs k = none → valV ws k = none) := by
  induction h with
  | nil => exact ⟨fun d e => by simp [dLook] at e, fun _ => rfl⟩
  | @cons p q ps qs h t ih =>
    obtain ⟨h1, h2⟩ := h
    by_cases e : p.1 = k
    · have e' : q.1 = k := h1 ▸ e
      rw [valV_pos e]
      refine ⟨fun d ed => ⟨_, rfl, ?_⟩, fun ed => ?_⟩
      · simp [dLook, List.find?_cons, e'] at ed
        rw [← ed]
        exact h2
      · simp [dLook, List.find?_cons, e'] at ed
    · have e' : ¬ q.1 = k := h1 ▸ e
      rw [valV_neg e]
      have : dLook (q :: qs) k = dLook qs k := by simp [dLook, List.find?_cons, e']
      rw [this]
      exact ih
theorem IsKV.any {ws : List (κ × V)} {kvs : List (κ × D)} (h : IsKV K mg F ws kvs) (k : κ) : (ws.any fun kv => decide (kv.1 = k)) = kvs.any fun kv => decide (kv.1 = k) := by
  induction h with
  | nil => rfl
  | @cons p q ps qs h t ih =>
    rw [List.any_cons, List.any_cons, ih, h.1]
theorem IsKV.length {ws : List (κ × V)} {kvs : List (κ × D)} (h : IsKV K mg F ws kvs) : ws.length = kvs.length := Paired.length h
theorem IsKV.app {ws us : List (κ × V)} {kvs ls : List (κ × D)} (h : IsKV K mg F ws kvs) (h' : IsKV K mg F us ls) : IsKV K mg F (ws ++ us) (kvs ++ ls) := by
  induction h with
  | nil => exact h'
  | cons h t ih => exact .cons h ih
theorem IsKV.repl {ws : List (κ × V)} {kvs : List (κ × D)} (h : IsKV K mg F ws kvs) (k : κ) {v : V} {d : D} (i : Is K mg F v d) : IsKV K mg F (ws.map fun kv => if kv.1 = k then (kv.1, v) else kv) (kvs.map fun kv => if kv.1 = k then (kv.1, d) else kv) := by
  induction h with
  | nil => exact .nil
  | @cons p q ps qs h t ih =>
    refine .cons ?_ ih
    by_cases e : p.1 = k
    · have e' : q.1 = k := h.1 ▸ e
      show (if p.1 = k then (p.1, v) else p).1 = (if q.1 = k then (q.1, d) else q).1 ∧ Is K mg F (if p.1 = k then (p.1, v) else p).2 (if q.1 = k then (q.1, d) else q).2
      rw [if_pos e, if_pos e']
      exact ⟨h.1, i⟩
    · have e' : ¬ q.1 = k := h.1 ▸ e
      show (if p.1 = k then (p.1, v) else p).1 = (if q.1 = k then (q.1, d) else q).1 ∧ Is K mg F (if p.1 = k then (p.1, v) else p).2 (if q.1 = k then (q.1, d) else q).2
      rw [if_neg e, if_neg e']
      exact h
theorem IsKV.put {ws : List (κ × V)} {kvs : List (κ × D)} (h : IsKV K mg F ws kvs) (k : κ) {v : V} {d : D} (i : Is K mg F v d) : IsKV K mg F (putK ws k v) (dPut kvs k d) := by
  unfold putK dPut
  rw [h.any k]
  by_cases c : (kvs.any fun kv => decide (kv.1 = k)) = true
  · rw [if_pos c, if_pos c]
    exact h.repl k i
  · rw [if_neg c, if_neg c]
    exact h.app (.cons ⟨rfl, i⟩ .nil)
end
@[simp] def keyOf : D → Option Key
  | .int i => some (.inl i)
  | .str x => some (.inr x)
  | _ => none
@[simp] def keysOf : List D → Option (List Key)
  | [] => some []
  | d :: ds => match keyOf d, keysOf ds with
    | some k, some ks => some (k :: ks)
    | _, _ => none
theorem key_val {K : PySem.W.Frag} {mg : Str → Option Value} {F : Hp} {v : V} {d : D} {k : Key} (h : Is K mg F v d) (e : keyOf d = some k) : v = kV k := by
  cases d <;> simp only [keyOf] at e <;> first | (cases e; done) | skip
  · cases e
    exact h.int_inv
  · cases e
    exact h.str_inv
theorem keys_val {K : PySem.W.Frag} {mg : Str → Option Value} {F : Hp} : ∀ {vs : List V} {ds : List D} {ks : List Key}, IsA K mg F vs ds → keysOf ds = some ks → vs = ks.map kV
  | _, _, _, .nil, e => by
    cases e
    rfl
  | _, _, _, .cons h t, e => by
    unfold keysOf at e
    split at e
    · rename_i k ks e1 e2
      cases e
      rw [key_val h e1, keys_val t e2]
      rfl
    · cases e
/-- a key that is a tuple, written out -/
abbrev WK := En → (List Key → En → Prop) → Prop
def tKy (K : PySem.W.Frag) (mg : Str → Option Value) (J : GJ) (w : WK) : TE := fun σ H Q => ∃ (pr : Hp) (env : En) (F : Hp) (q : List Key → En → Prop), Rep K mg J pr env σ F H ∧ w env q ∧
  ∀ ks env' b F' H', Rep K mg J pr env' σ F' H' → Same F F' → F' b = some (.tup (ks.map kV)) → q ks env' → Q (.ref b) H'
structure DK (X : Cx) (J : GJ) (e : Expr) (w : WK) : Prop where
  run : PE X e (tKy X.K X.mg J w)
@[simp] def wKeys (w : WA) : WK := fun env q => w env fun as e1 => ∃ ds ks, reals as = some ds ∧ keysOf ds = some ks ∧ ds.length ≤ 1000 ∧ q ks e1
section
variable {X : Cx} {J : GJ} {es : List Expr} {w : WA} {pos : Pos}
theorem dk_tup {k} (h : DA X J es w) : DK X J (.Tuple es k pos) (wKeys w) := by
  refine ⟨⟨fun pins s σ H Q I ⟨pr, env, F, q, R, hw, k⟩ => (pe_tup (h.run pr)).run pins s σ H Q I ⟨env, F, _, R, hw, fun as e1 vs F1 H1 R1 s1 i1 ⟨ds, ks, h1, h2, hl, hq⟩ => ?_⟩⟩⟩
  have ia := i1.real h1
  refine ⟨by rw [ia.length, sizeLine_eq]; omega, fun p n => ?_⟩
  obtain ⟨R2, s2⟩ := R1.laid (o := .tup vs) n
  exact k ks e1 p _ _ R2 (s1.trans s2) (by rw [upd_same, keys_val ia h2]) hq
end
/-- told[key] = value; .. with a tuple for a key -/
@[simp] def gDk (i : Nat) (we : WE) : WG := fun d env q => (∃ kvs, env[i]? = some (.dk kvs)) ∧ we env fun x e1 => ∃ kvs k, e1[i]? = some (.dk kvs) ∧ keyOf x = some k ∧ kvs.length < sizeLine ∧ q (e1.set i (.dk (dPut kvs k d)))
@[simp] def gDt (i : Nat) (wk : WK) : WG := fun d env q => (∃ kvs, env[i]? = some (.dt kvs)) ∧ wk env fun ks e1 => ∃ kvs, e1[i]? = some (.dt kvs) ∧ kvs.length < sizeLine ∧ q (e1.set i (.dt (dPut kvs ks d)))
@[simp] def wGet1k (i : Nat) (we : WE) : WE := fun env q => (∃ kvs, env[i]? = some (.dk kvs)) ∧ we env fun x e1 => ∃ kvs k, e1[i]? = some (.dk kvs) ∧ keyOf x = some k ∧ q ((dLook kvs k).getD .non) e1
@[simp] def wGet1t (i : Nat) (wk : WK) : WE := fun env q => (∃ kvs, env[i]? = some (.dt kvs)) ∧ wk env fun ks e1 => ∃ kvs, e1[i]? = some (.dt kvs) ∧ q ((dLook kvs ks).getD .non) e1
@[simp] def wGet2k (i : Nat) (we wd : WE) : WE := fun env q => (∃ kvs, env[i]? = some (.dk kvs)) ∧ we env fun x e1 => wd e1 fun y e2 => ∃ kvs k, e2[i]? = some (.dk kvs) ∧ keyOf x = some k ∧ q ((dLook kvs k).getD y) e2
@[simp] def wGet2t (i : Nat) (wk : WK) (wd : WE) : WE := fun env q => (∃ kvs, env[i]? = some (.dt kvs)) ∧ wk env fun ks e1 => wd e1 fun y e2 => ∃ kvs, e2[i]? = some (.dt kvs) ∧ q ((dLook kvs ks).getD y) e2
@[simp] def wSetd (i : Nat) (we wd : WE) : WE := fun env q => (∃ kvs, env[i]? = some (.dk kvs)) ∧ we env fun x e1 => wd e1 fun y e2 => ∃ kvs k, e2[i]? = some (.dk kvs) ∧ keyOf x = some k ∧ kvs.length < sizeLine ∧
  match dLook kvs k with
  | some d => q d e2
  | none => q y (e2.set i (.dk (dPut kvs k y)))
section
variable {X : Cx} {J : GJ} {o e f : Expr} {we wd : WE} {wk : WK} {pos apos cpos : Pos} {i : Nat}
theorem dk_at {K : PySem.W.Frag} {mg : Str → Option Value} {pr F H : Hp} {env : En} {σ : L2.St} {xs : List (Key × D)} (R : Rep K mg J pr env σ F H) (h : env[i]? = some (.dk xs)) :
    ∃ p vs, σ[i]? = some (some (V.ref p)) ∧ H p = some (.dK vs) ∧ IsKV K mg F vs xs ∧ Mine J pr F p := by
  obtain ⟨o, eo, p, vs, rfl, h1, h2, h3⟩ := R.at h
  exact ⟨p, vs, eo, h1, h2, h3⟩
theorem dt_at {K : PySem.W.Frag} {mg : Str → Option Value} {pr F H : Hp} {env : En} {σ : L2.St} {xs : List (List Key × D)} (R : Rep K mg J pr env σ F H) (h : env[i]? = some (.dt xs)) :
    ∃ p vs, σ[i]? = some (some (V.ref p)) ∧ H p = some (.dT vs) ∧ IsKV K mg F vs xs ∧ Mine J pr F p := by
  obtain ⟨o, eo, p, vs, rfl, h1, h2, h3⟩ := R.at h
  exact ⟨p, vs, eo, h1, h2, h3⟩
theorem set_dict (hu : X.A.units + 1 < cLine) : PSet X (fun o i v H Q => ∃ a H', o = .ref a ∧ DPut H a i v H' ∧ Q H') := by
  intro pins s σ H o i v ov iv u Q I r1 r2 r3 ⟨a, H', e, g, q⟩
  subst e
  obtain rfl : ov = Value.ref a := r1
  exact d_setItem hu I g r2 r3 fun s' I' => ⟨H', I', q⟩
theorem dg_dk (hu : X.A.units + 1 < cLine) (ho : PE X o (tVar i)) (h : DE X J e we)
    (ha : ∀ v, assign (.Subscript o e pos) X.env v = (do
      let ov ← holding [v] (eval o X.env)
      let iv ← holding [v, ov] (eval e X.env)
      standAt pos
      holding [v, ov, iv] (setItem ov iv v)
      release [v, ov, iv] []) := by intro _; rfl) : DG X J (.Subscript o e pos) [] (gDk i we) := by
  refine ⟨PG.imp (pg_sub ho h.x (set_dict hu) ha) fun v σ H Q ⟨pr, env, F, d, q, R, iv, ⟨⟨xs, hx⟩, hw⟩, k⟩ => ?_⟩
  obtain ⟨p, vs, e1, h1, h2, m⟩ := dk_at R hx
  refine ⟨_, e1, pr, env, F, _, R, hw, fun x e2 u F2 H2 R2 s2 i2 ⟨ys, l, hy, hd, hl, hq⟩ => ?_⟩
  obtain ⟨p', ws, e3, h3, h4, m'⟩ := dk_at R2 hy
  rw [e1] at e3
  cases e3
  have hk := key_val i2 hd
  subst hk
  refine ⟨p, _, rfl, DPut.k h3 (by rw [h4.length]; exact hl), k (e2.set i (.dk (dPut ys l d))) σ F2 _ (R2.write hy rfl e1 m' ⟨p, _, rfl, upd_same, h4.put l (iv.mono s2), m'⟩) s2 (fun _ _ => rfl) rfl hq⟩
theorem dg_dt (hu : X.A.units + 1 < cLine) (ho : PE X o (tVar i)) (h : DK X J e wk)
    (ha : ∀ v, assign (.Subscript o e pos) X.env v = (do
      let ov ← holding [v] (eval o X.env)
      let iv ← holding [v, ov] (eval e X.env)
      standAt pos
      holding [v, ov, iv] (setItem ov iv v)
      release [v, ov, iv] []) := by intro _; rfl) : DG X J (.Subscript o e pos) [] (gDt i wk) := by
  refine ⟨PG.imp (pg_sub ho h.run (set_dict hu) ha) fun v σ H Q ⟨pr, env, F, d, q, R, iv, ⟨⟨xs, hx⟩, hw⟩, k⟩ => ?_⟩
  obtain ⟨p, vs, e1, h1, h2, m⟩ := dt_at R hx
  refine ⟨_, e1, pr, env, F, _, R, hw, fun l e2 b F2 H2 R2 s2 i2 ⟨ys, hy, hl, hq⟩ => ?_⟩
  obtain ⟨p', ws, e3, h3, h4, m'⟩ := dt_at R2 hy
  rw [e1] at e3
  cases e3
  refine ⟨p, _, rfl, DPut.t h3 (R2.st.sub _ _ i2) (by rw [h4.length]; exact hl), k (e2.set i (.dt (dPut ys l d))) σ F2 _ (R2.write hy rfl e1 m' ⟨p, _, rfl, upd_same, h4.put l (iv.mono s2), m'⟩) s2 (fun _ _ => rfl) rfl hq⟩
theorem look_getD {κ : Type} [DecidableEq κ] {K : PySem.W.Frag} {mg : Str → Option Value} {F : Hp} {ws : List (κ × V)} {kvs : List (κ × D)} (h : IsKV K mg F ws kvs) (l : κ) {v : V} {d : D} (i : Is K mg F v d) : Is K mg F ((valV ws l).getD v) ((dLook kvs l).getD d) := by
  obtain ⟨h1, h2⟩ := h.look l
  cases e : dLook kvs l with
  | none =>
    rw [h2 e]
    exact i
  | some d' =>
    obtain ⟨v', ev, iv⟩ := h1 d' e
    rw [ev]
    exact iv
theorem de_get1k (hu : X.A.units + 1 < cLine) (ho : PE X o (tVar i)) (h : DE X J e we) (m : M1 X o "get" apos e cpos) : DE X J (.Call (.Attribute o "get" apos) [e] [] cpos) (wGet1k i we) := by
  refine ⟨fun pr => PE.imp (pe_dget1 hu ho h.x m) fun σ H Q ⟨env, F, q, R, ⟨⟨xs, hx⟩, hw⟩, k⟩ => ?_⟩
  obtain ⟨p, vs, e1, h1, h2, mm⟩ := dk_at R hx
  refine ⟨_, e1, p, rfl, .inl ⟨_, .inl h1⟩, pr, env, F, _, R, hw, fun x e2 u F2 H2 R2 s2 i2 ⟨ys, l, hy, hd, hq⟩ => ?_⟩
  obtain ⟨p', ws, e3, h3, h4, m'⟩ := dk_at R2 hy
  rw [e1] at e3
  cases e3
  have hk := key_val i2 hd
  subst hk
  exact ⟨_, DGet.k h3, k _ e2 _ F2 H2 R2 s2 (look_getD h4 l .non) hq⟩
theorem de_get1t (hu : X.A.units + 1 < cLine) (ho : PE X o (tVar i)) (h : DK X J e wk) (m : M1 X o "get" apos e cpos) : DE X J (.Call (.Attribute o "get" apos) [e] [] cpos) (wGet1t i wk) := by
  refine ⟨fun pr => PE.imp (pe_dget1 hu ho h.run m) fun σ H Q ⟨env, F, q, R, ⟨⟨xs, hx⟩, hw⟩, k⟩ => ?_⟩
  obtain ⟨p, vs, e1, h1, h2, mm⟩ := dt_at R hx
  refine ⟨_, e1, p, rfl, .inr ⟨_, .inl h1⟩, pr, env, F, _, R, hw, fun l e2 b F2 H2 R2 s2 i2 ⟨ys, hy, hq⟩ => ?_⟩
  obtain ⟨p', ws, e3, h3, h4, m'⟩ := dt_at R2 hy
  rw [e1] at e3
  cases e3
  exact ⟨_, DGet.t h3 (R2.st.sub _ _ i2), k _ e2 _ F2 H2 R2 s2 (look_getD h4 l .non) hq⟩
theorem de_get2k (hu : X.A.units + 1 < cLine) (ho : PE X o (tVar i)) (h : DE X J e we) (h' : DE X J f wd) (m : M2 X o "get" apos e f cpos) : DE X J (.Call (.Attribute o "get" apos) [e, f] [] cpos) (wGet2k i we wd) := by
  refine ⟨fun pr => PE.imp (pe_dget2 hu ho h.x h'.x m) fun σ H Q ⟨env, F, q, R, ⟨⟨xs, hx⟩, hw⟩, k⟩ => ?_⟩
  obtain ⟨p, vs, e1, h1, h2, mm⟩ := dk_at R hx
  refine ⟨_, e1, p, rfl, .inl ⟨_, .inl h1⟩, pr, env, F, _, R, hw, fun x e2 u F2 H2 R2 s2 i2 hw2 => ⟨pr, e2, F2, _, R2, hw2, fun y e3 z F3 H3 R3 s3 i3 ⟨ys, l, hy, hd, hq⟩ => ?_⟩⟩
  obtain ⟨p', ws, e4, h3, h4, m'⟩ := dk_at R3 hy
  rw [e1] at e4
  cases e4
  have hk := key_val i2 hd
  subst hk
  exact ⟨_, DGet.k h3, k _ e3 _ F3 H3 R3 (s2.trans s3) (look_getD h4 l i3) hq⟩
theorem de_get2t (hu : X.A.units + 1 < cLine) (ho : PE X o (tVar i)) (h : DK X J e wk) (h' : DE X J f wd) (m : M2 X o "get" apos e f cpos) : DE X J (.Call (.Attribute o "get" apos) [e, f] [] cpos) (wGet2t i wk wd) := by
  refine ⟨fun pr => PE.imp (pe_dget2 hu ho h.run h'.x m) fun σ H Q ⟨env, F, q, R, ⟨⟨xs, hx⟩, hw⟩, k⟩ => ?_⟩
  obtain ⟨p, vs, e1, h1, h2, mm⟩ := dt_at R hx
  refine ⟨_, e1, p, rfl, .inr ⟨_, .inl h1⟩, pr, env, F, _, R, hw, fun l e2 b F2 H2 R2 s2 i2 hw2 => ⟨pr, e2, F2, _, R2, hw2, fun y e3 z F3 H3 R3 s3 i3 ⟨ys, hy, hq⟩ => ?_⟩⟩
  obtain ⟨p', ws, e4, h3, h4, m'⟩ := dt_at R3 hy
  rw [e1] at e4
  cases e4
  exact ⟨_, DGet.t h3 (R3.st.sub _ _ (s3 _ _ i2)), k _ e3 _ F3 H3 R3 (s2.trans s3) (look_getD h4 l i3) hq⟩
end
end DL

/-! DL9: list(range(..)), len(set(..)), any target stored, setdefault, name op= value. -/
namespace DL
open PySem PySem.Spec PyProof.Rows L2

theorem isA_rg {K : PySem.W.Frag} {mg : Str → Option Value} {F : Hp} (n : Int) : IsA K mg F (rgV 0 n) (rgD 0 1 n.toNat) := by
  have : rgV 0 n = ((List.range n.toNat).map fun i => (0 + (i : Nat) * 1 : Int)).map V.int := by
    unfold rgV
    rw [List.map_map, Int.sub_zero]
    exact List.map_congr_left fun i _ => by
      show V.int (0 + (i : Nat)) = V.int (0 + (i : Nat) * 1)
      rw [Int.mul_one]
  rw [this]
  have e : rgD 0 1 n.toNat = ((List.range n.toNat).map fun i => (0 + (i : Nat) * 1 : Int)).map D.int := by
    unfold rgD
    rw [List.map_map]
    rfl
  rw [e]
  exact isA_ints
@[simp] def wLRg (w : WE) : WE := fun env q => w env fun d e1 => ∃ n : Int, d = .int n ∧ (-1000 ≤ n ∧ n ≤ 1000) ∧ q (.lst (rgD 0 1 n.toNat)) e1
@[simp] def wLenSet (w : WE) : WE := fun env q => w env fun d e1 => ∃ ns : List Int, d = .tup (ns.map D.int) ∧ ns.length ≤ 1000 ∧ ∀ out : List Int, out.Nodup → (∀ k, k ∈ out ↔ k ∈ ns) → q (.int (out.length : Nat)) e1
section
variable {X : Cx} {J : GJ} {e : Expr} {we : WE} {p p2 pos q : Pos}
theorem de_lrg (hc : X.calm = true) (hg : Gl X "list") (hm : X.mg "list" = none) (hg2 : Gl X "range") (hm2 : X.mg "range" = none) (h : DE X J e we)
    (n1 : starEach [.Call (.Name "range" p2) [e] [] q] X.env = (false, eval (.Call (.Name "range" p2) [e] [] q) X.env) :: starEach [] X.env := by rfl)
    (n2 : starEach [e] X.env = (false, eval e X.env) :: starEach [] X.env := by rfl) : DE X J (.Call (.Name "list" p) [.Call (.Name "range" p2) [e] [] q] [] pos) (wLRg we) := by
  refine ⟨fun pr => PE.imp (pe_listRg hc hg hm (prg_1 hg2 hm2 (h.run pr) n2) n1) fun σ H Q ⟨env, F, q, R, hw, k⟩ => ⟨env, F, _, R, hw, fun d e1 v F1 H1 R1 s1 i1 ⟨n, ed, hb, hq⟩ => ?_⟩⟩
  subst ed
  refine ⟨n, i1.int_inv, ⟨by omega, by omega, by omega, by omega, by omega⟩, fun b nb => ?_⟩
  obtain ⟨R2, s2⟩ := R1.laid (o := .lst (rgV 0 n)) nb
  exact k _ e1 _ _ _ R2 (s1.trans s2) (.lst upd_same (isA_rg n)) hq
theorem de_lenSet (hg : Gl X "len") (hm : X.mg "len" = none) (hg2 : Gl X "set") (hm2 : X.mg "set" = none) (h : DE X J e we) (hc : X.calm = true := by rfl)
    (na : starEach [e] X.env = (false, eval e X.env) :: starEach [] X.env := by rfl) : DE X J (.Call (.Name "len" p) [.Call (.Name "set" p2) [e] [] q] [] pos) (wLenSet we) := by
  refine ⟨fun pr => ⟨fun pins s σ H Q I ⟨env, F, r, R, hw, k⟩ => ?_⟩⟩
  refine Call_ (ld_blt I hg hm boot_len ?_)
  refine PyProof.Rows.callWith_builtin1 (PyProof.Rows.args_cons ?_ rfl) rfl rfl
  refine Call_ (ld_blt I hg2 hm2 boot_set ?_)
  refine PyProof.Rows.callWith_type1 (PyProof.Rows.args_cons (thn ((h.run pr).run pins s σ H _ I ⟨env, F, fun d e1 => ∃ ns : List Int, d = .tup (ns.map D.int) ∧ ns.length ≤ 1000 ∧ ∀ out : List Int, out.Nodup → (∀ k, k ∈ out ↔ k ∈ ns) → r (.int (out.length : Nat)) e1, R, hw, fun d e1 v F1 H1 R1 s1 i1 hq => (⟨d, e1, F1, R1, s1, i1, hq⟩ : ∃ d e1 F1, Rep X.K X.mg J pr e1 σ F1 H1 ∧ Same F F1 ∧ Is X.K X.mg F1 v d ∧ ∃ ns : List Int, d = .tup (ns.map D.int) ∧ ns.length ≤ 1000 ∧ ∀ out : List Int, out.Nodup → (∀ k, k ∈ out ↔ k ∈ ns) → r (.int (out.length : Nat)) e1)⟩) fun v s1 ⟨x, H1, I1, r1, q1⟩ => PyProof.Rows.args_nil ?_) na) na rfl
  obtain ⟨d, e1, F1, R1, sF, i1, ns, rfl, hl, q1⟩ := q1
  obtain ⟨l, xs, rfl, hq, ia⟩ := i1.tup_inv
  have := ia.ints
  subst this
  cases r1
  obtain ⟨its, rr, pl, hz⟩ := I1.tuple (same_seqT R1.st.sub hq)
  have hi : IntsAre its.toArray.toList ns := ints_of_vals rr
  refine call_set_tupI ns (I1.ok.hd hc) pl hi (by unfold scanBound; omega) fun h' tk c SR hcn hk => ?_
  refine PyProof.Rows.args_nil ?_
  obtain ⟨o, es, ep, t, ho, hex, hdt, g, nd, hm2, hb, hf, hn, hr, hl2⟩ := SR
  have I2 : Inv X pins σ H1 { s1 with heap := h', toks := tk } := I1.kept hk
  exact call_len_set ho hex hdt hf (by rw [hn] <;> omega) ⟨.int _, H1, I2.tok _, ⟨_, rfl⟩, by
    have z := q1 (es.toList.map L2.keyOf) nd fun k => by rw [← hm2 k, decide_eq_true_eq]
    rw [List.length_map, Array.length_toList] at z
    exact k _ e1 _ F1 H1 R1 sF (.int _) z⟩
end
@[simp] def wSetAt (w : WE) (g : WG) : WS := fun env E => w env fun d e1 => g d e1 E.nx
section
variable {X : Cx} {J : GJ} {tg e : Expr} {we wd : WE} {g : WG} {vs : List Nat} {pos : Pos}
theorem ds_asg (h : DE X J e we) (hg : DG X J tg vs g) (hs : swapsWithSole [tg] e pos.line X.env = pure false := by rfl) (hw : swappedStores [tg] e X.env = pure none := by rfl)
    (h1 : (assignEach [tg] X.env).map (·.2) = [assign tg X.env] := by rfl) : DS X J (.Assign [tg] e pos) (wSetAt we g) :=
  ⟨PS.imp (ps_asg h.x hg.run hs hw h1) fun Z σ H ⟨pr, env, F, E, R, hw, le⟩ => ⟨pr, env, F, _, R, hw, fun d e1 v F1 H1 R1 s1 i1 hq => ⟨pr, e1, F1, d, _, R1, i1, hq, fun e2 σ2 F2 H2 R2 s2 _ _ hq2 => le.nx e2 σ2 F2 H2 R2 (s1.trans s2) hq2⟩⟩⟩
theorem de_setd {o f : Expr} {apos cpos : Pos} {i : Nat} (ho : PE X o (tVar i)) (h : DE X J e we) (h' : DE X J f wd) (m : M2 X o "setdefault" apos e f cpos) : DE X J (.Call (.Attribute o "setdefault" apos) [e, f] [] cpos) (wSetd i we wd) := by
  refine ⟨fun pr => PE.imp (pe_dsetd ho h.x h'.x m) fun σ H Q ⟨env, F, q, R, ⟨⟨xs, hx⟩, hw⟩, k⟩ => ?_⟩
  obtain ⟨p, vs, e1, h1, h2, mm⟩ := dk_at R hx
  refine ⟨_, e1, p, rfl, .inl ⟨_, .inl h1⟩, pr, env, F, _, R, hw, fun x e2 u F2 H2 R2 s2 i2 hw2 => ⟨pr, e2, F2, _, R2, hw2, fun y e3 z F3 H3 R3 s3 i3 ⟨ys, l, hy, hd, hl, hq⟩ => ?_⟩⟩
  obtain ⟨p', ws, e4, h3, h4, m'⟩ := dk_at R3 hy
  rw [e1] at e4
  cases e4
  have hk := key_val i2 hd
  obtain ⟨l1, l2⟩ := h4.look l
  cases ed : dLook ys l with
  | some d =>
    rw [ed] at hq
    obtain ⟨v, ev, iv⟩ := l1 d ed
    refine ⟨ws, l, h3, hk, by rw [h4.length]; exact hl, fun v' hv' => ?_, fun hn => ?_⟩
    · rw [ev] at hv'
      cases hv'
      exact k _ e3 _ F3 H3 R3 (s2.trans s3) iv hq
    · rw [ev] at hn
      cases hn
  | none =>
    rw [ed] at hq
    have ev := l2 ed
    refine ⟨ws, l, h3, hk, by rw [h4.length]; exact hl, fun v' hv' => ?_, fun hn => ?_⟩
    · rw [ev] at hv'
      cases hv'
    · exact k _ (e3.set i (.dk (dPut ys l y))) _ F3 _ (R3.write hy rfl e1 m' ⟨p, _, rfl, upd_same, h4.put l i3, m'⟩) (s2.trans s3) i3 hq
end
end DL

/-! DL10: enumerate and zip over lists and tuples alike. -/
namespace DL
open PySem PySem.Spec PyProof.Rows L2

/-! ### a list (false) or a tuple (true) -/
def IsItr (k : Bool) (h : Heap) (it a : Addr) (i : Nat) : Prop := match k with
  | true => h.IsTupleIter it a i
  | false => h.IsListIter it a i
def IsSq (k : Bool) (h : Heap) (a : Addr) (items : Array Value) : Prop := match k with
  | true => h.IsTuple a items
  | false => h.IsList a items
def SqK (k : Bool) (K : PySem.W.Frag) (H : Hp) (a : Addr) (xs : List V) : Prop := match k with
  | true => SqT K H a xs
  | false => SqL K H a xs
def itrObj (k : Bool) (a : Addr) : Obj := match k with
  | true => { cls := .type "tuple_iterator", data := .fields #[.ref a, .int 0 0] }
  | false => { cls := .type "list_iterator", data := .fields #[.ref a, .int 0 0] }
section
variable {X : Cx} {pins : List (Addr × Obj)} {σ : L2.St} {H : Hp} {s : Shared} {k : Bool} {a it : Addr} {xs ys : List V}
theorem sq_of (I : Inv X pins σ H s) (h : SqK k X.K H a xs) : ∃ its : List Value, Vals xs its ∧ IsSq k s.heap a its.toArray ∧ a < s.heap.objs.size := by
  cases k with
  | true =>
    obtain ⟨its, r, p, _⟩ := I.tuple h
    obtain ⟨o, e, _⟩ := id p
    exact ⟨its, r, p, Heap.lt_size e⟩
  | false =>
    obtain ⟨its, r, p, _⟩ := I.list h
    exact ⟨its, r, p.isList, p.lt⟩
theorem sq_inj (I : Inv X pins σ H s) (h : SqK k X.K H a xs) (h' : SqK k X.K H a ys) : xs = ys := by
  cases k with
  | true => exact I.tuple_inj h h'
  | false => exact I.list_inj h h'
theorem sq_same {K : PySem.W.Frag} {F H : Hp} (e : Same F H) (h : SqK k K F a xs) : SqK k K H a xs := by
  cases k with
  | true => exact same_seqT e h
  | false => exact e.seq h
theorem itr_at {h h' : Heap} {i : Nat} (x : IsItr k h it a i) (e : ∀ o, h.get? it = some o → h'.get? it = some o) : IsItr k h' it a i := by
  cases k with
  | true => exact Heap.IsTupleIter.at x e
  | false => exact Heap.IsListIter.at x e
theorem itr_obj {h : Heap} {i : Nat} (x : IsItr k h it a i) : ∃ o, h.get? it = some o ∧ (∀ v, o.data ≠ .cell v) ∧ (o.cls = .type "tuple_iterator" ∨ o.cls = .type "list_iterator") := by
  cases k with
  | true =>
    obtain ⟨o, e, c, d⟩ := x
    exact ⟨o, e, (fun v z => by rw [d] at z; cases z), .inl c⟩
  | false =>
    obtain ⟨o, e, c, d⟩ := x
    exact ⟨o, e, (fun v z => by rw [d] at z; cases z), .inr c⟩
theorem sq_obj {h : Heap} {items : Array Value} (x : IsSq k h a items) : ∃ o, h.get? a = some o ∧ (o.cls = .type "tuple" ∨ o.cls = .type "list") := by
  cases k with
  | true =>
    obtain ⟨o, e, c, d⟩ := x
    exact ⟨o, e, .inl c⟩
  | false =>
    obtain ⟨o, e, c, d⟩ := x
    exact ⟨o, e, .inr c⟩
theorem sq_ne_itr {h : Heap} {items : Array Value} {i : Nat} (x : IsSq k h a items) (y : IsItr k h it a i) : a ≠ it := fun e => by
  subst e
  obtain ⟨o, e1, c1⟩ := sq_obj x
  obtain ⟨o', e2, _, c2⟩ := itr_obj y
  rw [e1] at e2
  cases e2
  rcases c1 with c1 | c1 <;> rcases c2 with c2 | c2 <;> rw [c1] at c2 <;> simp at c2
theorem draws {prog : Program} {w : World} {A : Around} (k : Bool) (hh : A.handled = none) (it a : Addr) (hne : a ≠ it) (items : Array Value) :
    Draws prog w A it [it, a] items.size (fun i v => items[i]? = some v) (fun i h => IsItr k h it a i ∧ IsSq k h a items) := by
  cases k with
  | true => exact Draws.tuple hh it a hne items
  | false => exact Draws.list hh it a hne items
theorem sq_at {h h' : Heap} {items : Array Value} (x : IsSq k h a items) (e : ∀ o, h.get? a = some o → h'.get? a = some o) : IsSq k h' a items := by
  cases k with
  | true => exact Heap.IsTuple.at x e
  | false => exact Heap.IsList.at x e
/-- at the end -/
theorem drawsEnd {prog : Program} {w : World} {A : Around} (k : Bool) (hh : A.handled = none) (it a : Addr) (items : Array Value) (n : Nat) (hn : items[n]? = none) :
    Draws prog w A it [it, a] n (fun _ _ => False) (fun i h => i = n ∧ IsItr k h it a n ∧ IsSq k h a items) where
  live := fun _ _ st => let ⟨o, ho, _⟩ := itr_obj st.2.1; ⟨o, ho⟩
  frame := fun _ _ _ st hk => ⟨st.1, itr_at st.2.1 fun o e => hk it (by simp) o e, sq_at st.2.2 fun o e => hk a (by simp) o e⟩
  item := fun i s Q E hi st hQ => absurd st.1 (Nat.ne_of_lt hi)
  done := fun s Q E st hE => by
    cases k with
    | true => exact wpAny_nextOf_tuple_end hh st.2.1 st.2.2 hn hE
    | false => exact wpAny_nextOf_list_end hh st.2.1 st.2.2 hn hE
theorem begins (k : Bool) (a : Addr) (items : Array Value) : Begins (.ref a) (itrObj k a) fun h => IsSq k h a items := by
  cases k with
  | true => exact begins_tuple a items
  | false => exact begins_list a items
theorem itr_new {h : Heap} (e : h.get? it = some (itrObj k a)) : IsItr k h it a 0 := by
  cases k with
  | true => exact ⟨_, e, rfl, rfl⟩
  | false => exact ⟨_, e, rfl, rfl⟩
end
/-- some walk through it that is as far as i -/
theorem draws_at {prog : Program} {w : World} {A : Around} (k : Bool) (hh : A.handled = none) (it a : Addr) (hne : a ≠ it) (items : Array Value) (i : Nat) :
    ∃ n P St, Draws prog w A it [it, a] n P St ∧ (∀ h, IsItr k h it a i → IsSq k h a items → St i h) ∧ i ≤ n ∧ (items.size ≤ i → i = n) := by
  by_cases hi : items.size ≤ i
  · exact ⟨i, _, _, drawsEnd k hh it a items i (by simp [hi]), fun h x y => ⟨rfl, x, y⟩, Nat.le_refl _, fun _ => rfl⟩
  · exact ⟨items.size, _, _, draws k hh it a hne items, fun h x y => ⟨x, y⟩, by omega, fun h => absurd h hi⟩

/-! ### enumerate -/
def IteK (k : Bool) (K : PySem.W.Frag) (a : Addr) : It :=
  ⟨fun i H => ∃ (xs : List V) (x : V), SqK k K H a xs ∧ xs[i]? = some x, fun i H v H' => ∃ T x, v = .ref T ∧ H T = none ∧ H' = upd H T (.tup [.int (i : Nat), x]) ∧ ∀ xs, SqK k K H a xs → xs[i]? = some x, fun i H => ∃ xs : List V, SqK k K H a xs ∧ xs.length ≤ i⟩
theorem turn_enumK {P : Program} {w : World} {K : PySem.W.Frag} {elts : List Expr} {kk : Nat} {tpos : Pos} (k : Bool) (a e it : Addr) :
    Turn P w K (.Tuple elts kk tpos) (IteK k K a) [e, it] e (fun i h => (∃ old, IsEnum h e it ((i : Nat) : Int) old) ∧ IsItr k h it a i ∧ e ≠ it) where
  mem := by simp
  obj := fun i h st b hb => by
    obtain ⟨⟨old, he⟩, hi, _⟩ := st
    obtain ⟨o, ho, hd, _⟩ := itr_obj hi
    have e' : b = e ∨ b = it := by simpa using hb
    rcases e' with z | z
    · rw [z]; exact ⟨_, he, fun v q => nomatch q⟩
    · rw [z]; exact ⟨o, ho, hd⟩
  keep := fun i h h' st k => let ⟨⟨old, he⟩, hi, hne⟩ := st; ⟨⟨old, k e (by simp) _ he⟩, itr_at hi fun o q => k it (by simp) o q, hne⟩
  item := by
    intro X hP hw hK hc i pins s σ H E I hf st hg
    subst hP hw hK
    obtain ⟨⟨old, he⟩, hit, hne⟩ := st
    obtain ⟨xs, x, hq, hx⟩ := hg
    obtain ⟨its, rv, p, _⟩ := sq_of I hq
    obtain ⟨u, hu, ru⟩ := rv.get hx
    have hh : X.A.in1.handled = none := I.ok.hd hc
    have hel : e < s.heap.objs.size := Heap.lt_size he
    have hil : it < s.heap.objs.size := by obtain ⟨_, q, _⟩ := itr_obj hit; exact Heap.lt_size q
    have hai : a ≠ it := sq_ne_itr p hit
    have hea : e ≠ a := fun z => by
      subst z
      obtain ⟨o, e1, c1⟩ := sq_obj p
      have he' : s.heap.get? e = _ := he
      rw [e1] at he'
      cases he'
      rcases c1 with c1 | c1 <;> simp at c1
    refine wpAny_pyNext_enum_itemC (draws k hh it a hai its.toArray) he ⟨hit, p⟩ (by
      have := (List.getElem?_eq_some_iff.mp hu).1
      simpa using this) hne (by simp [hne, hea]) fun x' h' tk hPx ho hst hT hsz hk => ?_
    have ex : x' = u := by
      have h1 : its.toArray[i]? = some x' := hPx
      have h2 : its.toArray[i]? = some u := by simpa using hu
      rw [h1] at h2
      exact Option.some.inj h2
    subst ex
    refine ⟨_, rfl, wpAny_letOwnedTupleGo_enum (s := { s with heap := h', toks := tk + 1 }) ho fun h'' he' sb => ?_⟩
    have hT2 : h''.get? s.heap.objs.size = some { cls := .type "tuple", data := .seq #[.int i tk, x'] } := (sb.2 _ (Nat.ne_of_gt hel)).trans hT
    have new : ObjOk X.prog X.w (upd H s.heap.objs.size (.tup [.int (i : Nat), x])) h'' s.heap.objs.size (.tup [.int (i : Nat), x]) :=
      ⟨by show 2 ≤ sizeLine; decide, [.int i tk, x'], .cons ⟨_, rfl⟩ (.cons ru .nil), ⟨_, hT2, rfl, _, rfl⟩⟩
    have I1 : Inv X pins σ (upd H s.heap.objs.size (.tup [.int (i : Nat), x])) { s with heap := h'', toks := tk + 1 } :=
      I.turnedNew (ch := [e, it]) (fun b ob hb q => (sb.2 b (fun z => hb (by simp [z]))).trans (hk b ob (fun z => hb (by simp [z])) (fun z => hb (by simp [z])) q)) hf (Nat.le_refl _) new
    refine ⟨.ref s.heap.objs.size, _, I1, rfl, ⟨_, x, rfl, I.hok.fresh (Nat.le_refl _), rfl, fun ys hy => by rw [sq_inj I hy hq]; exact hx⟩, ⟨⟨x', ?_⟩, itr_at hst.1 fun o q => (sb.2 it (Ne.symm hne)).trans q, hne⟩, fun b hb => ?_⟩
    · have e1 : ((i + 1 : Nat) : Int) = (i : Int) + 1 := by omega
      rw [e1]; exact he'
    · have hb' : b < s.heap.objs.size := by
        have e' : b = e ∨ b = it := by simpa using hb
        rcases e' with z | z
        · rw [z]; exact hel
        · rw [z]; exact hil
      rw [upd_ne (Nat.ne_of_lt hb')]
      exact (hf b hb).1
  done := by
    intro X hP hw hK hc i pins s σ H E I hf st hg
    subst hP hw hK
    obtain ⟨⟨old, he⟩, hit, hne⟩ := st
    obtain ⟨xs, hq, hx⟩ := hg
    obtain ⟨its, rv, p, _⟩ := sq_of I hq
    have hh : X.A.in1.handled = none := I.ok.hd hc
    obtain ⟨f0, f1, f2, f3, f4, f5⟩ := hf it (by simp)
    have hl := rv.length
    exact wpAny_pyNext_enum_endD (drawsEnd k hh it a its.toArray i (by simp; omega)) he ⟨rfl, hit, p⟩ fun h' eb => ⟨rfl, I.turned (t' := s.toks) (fun b o hb q => eb b o hb q) f0 f1 f3 f4 f5⟩
  self := fun A i s Q E st h => let ⟨⟨_, he⟩, _⟩ := st; wpAny_pyIter_enum he h

set_option maxHeartbeats 1000000 in
theorem meets_enumerate_new1 {v : Value} {o : Obj} {H : Heap → Prop} (B : Begins v o H) :
    Meets (Builtin.«enumerate.__new__» ⟨[.type "enumerate", v], []⟩) (fun _ R s => H s.heap ∧
      R (.ok (.ret (.ref (s.heap.push o).objs.size))) { s with heap := (s.heap.push o).push { cls := .type "enumerate", data := .fields #[.none, .bool false, .ref s.heap.objs.size, rawInt 0, .none, .none] } }) :=
  .of_wp fun prog w A R s h => by
    obtain ⟨hp, g, d, tk, os⟩ := s; obtain ⟨h1, h⟩ := h
    have hsub := sub_enumerate
    have q1 : ∀ {A' : Around} {E : Value → Shared → Prop} {Q : Value → Shared → Prop}, Q (.ref hp.objs.size) ⟨hp.push o, g, d, tk, os⟩ → wpAny (model prog w) A' (pyIter v) Q E ⟨hp, g, d, tk, os⟩ :=
      fun q => B.iter prog w _ _ ⟨hp, g, d, tk, os⟩ _ h1 q
    wp_walk using q1
    refine wpAny_stack_any fun st => wpAny_pure ?_
    split
    · rename_i c _ _ _ _ _
      cases (c == Value.type "enumerate")
      · wp_walk using q1
        exact ⟨_, rfl, h⟩
      · wp_walk using q1
        exact ⟨_, rfl, h⟩
    · wp_walk using q1
      exact ⟨_, rfl, h⟩
theorem call_enumerateB {prog : Program} {w : World} {A : Around} {E : Value → Shared → Prop} {s : Shared} {v : Value} {o : Obj} {H : Heap → Prop} {Q : Value → Shared → Prop} (B : Begins v o H) (h1 : H s.heap)
    (h : ∀ h', IsEnum h' (s.heap.objs.size + 1) s.heap.objs.size 0 .none → h'.get? s.heap.objs.size = some o → h'.objs.size = s.heap.objs.size + 2 →
      (∀ b o, s.heap.get? b = some o → h'.get? b = some o) → Q (.ref (s.heap.objs.size + 1)) { s with heap := h' }) :
    wpAny (model prog w) A (call (.type "enumerate") [v]) Q E s := by
  refine callType_new F.called_enumerate (by decide) (F.typeCall_enumerate_1 _) (F.newCall_enumerate_1 _) (fun obj => F.args_object_init_2 obj _) F.entry_enumerate_new
    (meets_enumerate_new1 B) ⟨h1, ?_⟩
  have hz : (s.heap.push o).objs.size = s.heap.objs.size + 1 := Heap.size_push ..
  show _ ∧ _
  rw [hz]
  have he : IsEnum ((s.heap.push o).push { cls := .type "enumerate", data := .fields #[.none, .bool false, .ref s.heap.objs.size, rawInt 0, .none, .none] }) (s.heap.objs.size + 1) s.heap.objs.size 0 .none := by
    have := Heap.get?_push_size (s.heap.push o) (o := { cls := .type "enumerate", data := .fields #[.none, .bool false, .ref s.heap.objs.size, rawInt 0, .none, .none] }) rfl
    rw [hz] at this; exact this
  refine ⟨⟨_, he, rfl⟩, h _ he (Heap.get?_push_of_some _ (Heap.get?_push_size _ B.free)) (by rw [Heap.size_push, hz]) fun b o x => Heap.get?_push_of_some _ (Heap.get?_push_of_some _ x)⟩
def iEnumK (K : PySem.W.Frag) (ta : TA) : TI := fun σ H R => ta σ H fun vs H1 => ∃ k a xs, vs = [.ref a] ∧ SqK k K H1 a xs ∧ R (IteK k K a) H1
theorem pi_enumK {X : Cx} {e : Expr} {ta : TA} {p pos tpos : Pos} {elts : List Expr} {kk : Nat} (hg : Gl X "enumerate") (hm : X.mg "enumerate" = none) (ha : PA X [e] ta) (hs : starEach [e] X.env = [(false, eval e X.env)] := by rfl) :
    PI X (.Tuple elts kk tpos) (.Call (.Name "enumerate" p) [e] [] pos) (iEnumK X.K ta) := by
  refine ⟨fun pins s σ H R I h => ?_⟩
  refine Call_ (ld_blt I hg hm boot_enumerate (PyProof.Rows.callWith_type1 (thn (ha.run pos pins s σ H _ I h) fun us s1 ⟨vs, H1, I1, r1, q1⟩ => ?_) hs rfl))
  obtain ⟨k, a, xs, ex, hq, q⟩ := q1
  subst ex
  cases r1 with
  | cons r rr =>
    cases rr
    cases r
    obtain ⟨its, rv, p', _⟩ := sq_of I1 hq
    refine call_enumerateB (begins k a its.toArray) p' fun h' he hit hsz hk => wpAny_pyIter_enum he ?_
    have I2 : Inv X pins σ H1 { s1 with heap := h' } := I1.kept (t' := s1.toks) hk
    refine ⟨s1.heap.objs.size + 1, [s1.heap.objs.size + 1, s1.heap.objs.size], _, _, H1, rfl, I2, turn_enumK k a (s1.heap.objs.size + 1) s1.heap.objs.size, ⟨⟨.none, he⟩, itr_new hit, Nat.succ_ne_self _⟩, fun b hb => ?_, q⟩
    have e' : b = s1.heap.objs.size + 1 ∨ b = s1.heap.objs.size := by simpa using hb
    have hle : s1.heap.objs.size ≤ b := by
      rcases e' with z | z
      · rw [z]; exact Nat.le_add_right _ _
      · rw [z]; exact Nat.le_refl _
    exact I1.fpOk hle (I1.hok.fresh hle)

/-! ### zip -/
def ItzK (k1 k2 : Bool) (K : PySem.W.Frag) (a b : Addr) : It :=
  ⟨fun i H => ∃ (xs ys : List V) (x y : V), SqK k1 K H a xs ∧ SqK k2 K H b ys ∧ xs[i]? = some x ∧ ys[i]? = some y,
    fun i H v H' => ∃ T x y, v = .ref T ∧ H T = none ∧ H' = upd H T (.tup [x, y]) ∧ (∀ xs, SqK k1 K H a xs → xs[i]? = some x) ∧ ∀ ys, SqK k2 K H b ys → ys[i]? = some y,
    fun i H => ∃ xs ys : List V, SqK k1 K H a xs ∧ SqK k2 K H b ys ∧ (xs.length ≤ i ∨ ys.length ≤ i)⟩
theorem turn_zipK {P : Program} {w : World} {K : PySem.W.Frag} {elts : List Expr} {kk : Nat} {tpos : Pos} {a b z TI TO i1 i2 : Addr} (k1 k2 : Bool) (S : ZipSep2 z TI TO i1 i2 [i1, a] [i2, b]) :
    Turn P w K (.Tuple elts kk tpos) (ItzK k1 k2 K a b) [z, TI, TO, i1, i2] z (fun i h => IsZip h z TI TO .none ∧ IsTupOf2 h TI (.ref i1) (.ref i2) ∧ (∃ x y, IsTupOf2 h TO x y) ∧ IsItr k1 h i1 a i ∧ IsItr k2 h i2 b i) where
  mem := by simp
  obj := fun i h st c hc => by
    obtain ⟨hz, hTI, ⟨x, y, hTO⟩, h1, h2⟩ := st
    obtain ⟨o1, e1, d1, _⟩ := itr_obj h1
    obtain ⟨o2, e2, d2, _⟩ := itr_obj h2
    have e' : c = z ∨ c = TI ∨ c = TO ∨ c = i1 ∨ c = i2 := by simpa using hc
    rcases e' with q | q | q | q | q
    · rw [q]; exact ⟨_, hz, fun v q => nomatch q⟩
    · rw [q]; exact ⟨_, hTI, fun v q => nomatch q⟩
    · rw [q]; exact ⟨_, hTO, fun v q => nomatch q⟩
    · rw [q]; exact ⟨o1, e1, d1⟩
    · rw [q]; exact ⟨o2, e2, d2⟩
  keep := fun i h h' st k => by
    obtain ⟨hz, hTI, ⟨x, y, hTO⟩, h1, h2⟩ := st
    exact ⟨k z (by simp) _ hz, k TI (by simp) _ hTI, ⟨x, y, k TO (by simp) _ hTO⟩, itr_at h1 fun o q => k i1 (by simp) o q, itr_at h2 fun o q => k i2 (by simp) o q⟩
  item := by
    intro X hP hw hK hc i pins s σ H E I hf st hg
    subst hP hw hK
    obtain ⟨hz, hTI, ⟨x0, y0, hTO⟩, h1, h2⟩ := st
    obtain ⟨xs, ys, x, y, hqx, hqy, hx, hy⟩ := hg
    obtain ⟨its, rv, p, _⟩ := sq_of I hqx
    obtain ⟨its2, rv2, p2, _⟩ := sq_of I hqy
    obtain ⟨u, hu, ru⟩ := rv.get hx
    obtain ⟨u2, hu2, ru2⟩ := rv2.get hy
    have hh : X.A.in1.handled = none := I.ok.hd hc
    have hzl : z < s.heap.objs.size := Heap.lt_size hz
    have hlt : i < its.toArray.size := by
      have := (List.getElem?_eq_some_iff.mp hu).1
      simpa using this
    have hlt2 : i < its2.toArray.size := by
      have := (List.getElem?_eq_some_iff.mp hu2).1
      simpa using this
    refine wpAny_pyNext_zipD2_item S (draws k1 hh i1 a (sq_ne_itr p h1) its.toArray) (draws k2 hh i2 b (sq_ne_itr p2 h2) its2.toArray) hz hTI hTO ⟨h1, p⟩ ⟨h2, p2⟩ hlt hlt2 fun x1 x2 h' tk P1 P2 z' TO' hs1 hs2 hT hsz hk => ?_
    have ex : x1 = u := by
      have q1 : its.toArray[i]? = some x1 := P1
      have q2 : its.toArray[i]? = some u := by simpa using hu
      rw [q1] at q2
      exact Option.some.inj q2
    have ey : x2 = u2 := by
      have q1 : its2.toArray[i]? = some x2 := P2
      have q2 : its2.toArray[i]? = some u2 := by simpa using hu2
      rw [q1] at q2
      exact Option.some.inj q2
    subst ex ey
    refine ⟨_, rfl, wpAny_letOwnedTupleGo_zip (s := { s with heap := h', toks := tk }) z' fun h'' z'' sb => ?_⟩
    have hT2 : h''.get? s.heap.objs.size = some { cls := .type "tuple", data := .seq #[x1, x2] } := (sb.2 _ (Nat.ne_of_gt hzl)).trans hT
    have new : ObjOk X.prog X.w (upd H s.heap.objs.size (.tup [x, y])) h'' s.heap.objs.size (.tup [x, y]) :=
      ⟨by show 2 ≤ sizeLine; decide, [x1, x2], .cons ru (.cons ru2 .nil), ⟨_, hT2, rfl, _, rfl⟩⟩
    have I1 : Inv X pins σ (upd H s.heap.objs.size (.tup [x, y])) { s with heap := h'', toks := tk } :=
      I.turnedNew (ch := [z, TI, TO, i1, i2]) (fun c o hb q => (sb.2 c (fun q' => hb (by simp [q']))).trans (hk c o (fun q' => hb (by simp [q'])) (fun q' => hb (by simp [q'])) (fun q' => hb (by simp [q'])) (fun q' => hb (by simp [q'])) q)) hf (Nat.le_refl _) new
    refine ⟨.ref s.heap.objs.size, _, I1, rfl, ⟨_, x, y, rfl, I.hok.fresh (Nat.le_refl _), rfl, fun l hl => by rw [sq_inj I hl hqx]; exact hx, fun l hl => by rw [sq_inj I hl hqy]; exact hy⟩, ⟨z'', ?_, ⟨x1, x2, ?_⟩, ?_, ?_⟩, fun c hcm => ?_⟩
    · exact (sb.2 _ S.TIz).trans (hk _ _ S.TIz S.TITO S.TIi1 S.TIi2 hTI)
    · exact (sb.2 _ S.TOz).trans TO'
    · exact itr_at hs1.1 fun o q => (sb.2 _ S.zi1.symm).trans q
    · exact itr_at hs2.1 fun o q => (sb.2 _ S.zi2.symm).trans q
    · have hlt : c < s.heap.objs.size := by
        have e' : c = z ∨ c = TI ∨ c = TO ∨ c = i1 ∨ c = i2 := by simpa using hcm
        rcases e' with q | q | q | q | q
        · rw [q]; exact hzl
        · rw [q]; exact Heap.lt_size hTI
        · rw [q]; exact Heap.lt_size hTO
        · rw [q]; obtain ⟨_, e1, _⟩ := itr_obj h1; exact Heap.lt_size e1
        · rw [q]; obtain ⟨_, e2, _⟩ := itr_obj h2; exact Heap.lt_size e2
      rw [upd_ne (Nat.ne_of_lt hlt)]
      exact (hf c hcm).1
  done := by
    intro X hP hw hK hc i pins s σ H E I hf st hg
    subst hP hw hK
    obtain ⟨hz, hTI, ⟨x0, y0, hTO⟩, h1, h2⟩ := st
    obtain ⟨xs, ys, hqx, hqy, hend⟩ := hg
    obtain ⟨its, rv, p, _⟩ := sq_of I hqx
    obtain ⟨its2, rv2, p2, _⟩ := sq_of I hqy
    have hh : X.A.in1.handled = none := I.ok.hd hc
    have l1 := rv.length
    have l2 := rv2.length
    obtain ⟨n1, P1, St1, D1, s1, le1, en1⟩ := draws_at (prog := X.prog) (w := X.w) k1 hh i1 a (sq_ne_itr p h1) its.toArray i
    obtain ⟨n2, P2, St2, D2, s2, le2, en2⟩ := draws_at (prog := X.prog) (w := X.w) k2 hh i2 b (sq_ne_itr p2 h2) its2.toArray i
    have he : i = n1 ∨ i = n2 := by
      rcases hend with q | q
      · exact .inl (en1 (by simp; omega))
      · exact .inr (en2 (by simp; omega))
    exact wpAny_pyNext_zipD2_end S D1 D2 hz hTI hTO (s1 _ h1 p) (s2 _ h2 p2) le1 le2 he fun h' tk hk => ⟨rfl, I.turnedL (t' := tk) (ch := [z, TI, TO, i1, i2]) (fun c o hb q =>
      hk c o (fun q' => hb (by simp [q'])) (fun q' => hb (by simp [q'])) (fun q' => hb (by simp [q'])) (fun q' => hb (by simp [q'])) q) hf⟩
  self := fun A i s Q E st h => wpAny_pyIter_zip st.1 h
def iZipK (K : PySem.W.Frag) (ta : TA) : TI := fun σ H R => ta σ H fun vs H1 => ∃ k1 k2 a b xs ys, vs = [.ref a, .ref b] ∧ SqK k1 K H1 a xs ∧ SqK k2 K H1 b ys ∧ R (ItzK k1 k2 K a b) H1
theorem pi_zipK {X : Cx} {e e2 : Expr} {ta : TA} {p pos tpos : Pos} {elts : List Expr} {kk : Nat} (hg : Gl X "zip") (hm : X.mg "zip" = none) (ha : PA X [e, e2] ta)
    (hs : starEach [e, e2] X.env = (false, eval e X.env) :: starEach [e2] X.env := by rfl) (hpl : (backTo pos (starEach [e2] X.env)).any (·.1) = false := by rfl) :
    PI X (.Tuple elts kk tpos) (.Call (.Name "zip" p) [e, e2] [] pos) (iZipK X.K ta) := by
  refine ⟨fun pins s σ H R I h => ?_⟩
  refine Call_ (ld_blt I hg hm PyProof.Rows.boot_zip (PyProof.Rows.callWith_type1 (thn (ha.run pos pins s σ H _ I h) fun us s1 ⟨vs, H1, I1, r1, q1⟩ => ?_) hs hpl))
  obtain ⟨k1, k2, a, b, xs, ys, ex, hqx, hqy, q⟩ := q1
  subst ex
  cases r1 with
  | cons r rr =>
    cases rr with
    | cons r' rr =>
      cases rr
      cases r
      cases r'
      obtain ⟨its, rv, p1, la⟩ := sq_of I1 hqx
      obtain ⟨its2, rv2, p2, lb⟩ := sq_of I1 hqy
      refine zip_begins2 (begins k1 a its.toArray) (begins k2 b its2.toArray) p1 p2 fun h' hz hTI hTO h1 h2 hsz hk => wpAny_pyIter_zip hz ?_
      have I2 : Inv X pins σ H1 { s1 with heap := h' } := I1.kept (t' := s1.toks) hk
      refine ⟨s1.heap.objs.size + 4, [s1.heap.objs.size + 4, s1.heap.objs.size + 2, s1.heap.objs.size + 3, s1.heap.objs.size, s1.heap.objs.size + 1], _, _, H1, rfl, I2, turn_zipK k1 k2 (zip_sep2 (fp1 := [a]) (fp2 := [b]) (by simpa using la) (by simpa using lb)), ⟨hz, hTI, ⟨_, _, hTO⟩, itr_new h1, itr_new h2⟩, fun c hcm => ?_, q⟩
      have e' : c = s1.heap.objs.size + 4 ∨ c = s1.heap.objs.size + 2 ∨ c = s1.heap.objs.size + 3 ∨ c = s1.heap.objs.size ∨ c = s1.heap.objs.size + 1 := by simpa using hcm
      have hle : s1.heap.objs.size ≤ c := by
        rcases e' with z | z | z | z | z
        · rw [z]; exact Nat.le_add_right _ _
        · rw [z]; exact Nat.le_add_right _ _
        · rw [z]; exact Nat.le_add_right _ _
        · rw [z]; exact Nat.le_refl _
        · rw [z]; exact Nat.le_add_right _ _
      exact I1.fpOk hle (I1.hok.fresh hle)

/-! ### over data -/
/-- (i, x) for each x, counting from i -/
@[simp] def enD : Nat → List D → List D
  | _, [] => []
  | i, x :: xs => .tup [.int (i : Nat), x] :: enD (i + 1) xs
@[simp] def zipD : List D → List D → List D
  | x :: xs, y :: ys => .tup [x, y] :: zipD xs ys
  | _, _ => []
theorem enD_length : ∀ (j : Nat) (xs : List D), (enD j xs).length = xs.length
  | _, [] => rfl
  | j, x :: xs => congrArg (· + 1) (enD_length (j + 1) xs)
theorem enD_get : ∀ (j : Nat) (xs : List D) (i : Nat), (enD j xs)[i]? = xs[i]?.map fun x => .tup [.int ((j + i : Nat) : Int), x]
  | _, [], _ => rfl
  | j, x :: xs, 0 => rfl
  | j, x :: xs, i + 1 => by
    have := enD_get (j + 1) xs i
    simp only [enD, List.getElem?_cons_succ, this]
    rw [show j + 1 + i = j + (i + 1) by omega]
theorem zipD_length : ∀ (xs ys : List D), (zipD xs ys).length = min xs.length ys.length
  | [], _ => by simp
  | _ :: _, [] => by simp
  | x :: xs, y :: ys => by simp [zipD_length xs ys]
theorem zipD_get : ∀ (xs ys : List D) (i : Nat) (x y : D), xs[i]? = some x → ys[i]? = some y → (zipD xs ys)[i]? = some (.tup [x, y])
  | [], _, _, _, _, h, _ => by simp at h
  | _ :: _, [], _, _, _, _, h => by simp at h
  | x :: xs, y :: ys, 0, _, _, h, h' => by
    simp at h h'
    subst h h'
    rfl
  | x :: xs, y :: ys, i + 1, _, _, h, h' => by
    simp only [zipD, List.getElem?_cons_succ]
    exact zipD_get xs ys i _ _ (by simpa using h) (by simpa using h')
section
variable {K : PySem.W.Frag} {mg : Str → Option Value} {J : GJ} {pr : Hp}
theorem itOk_enum {k : Bool} {a : Addr} {F0 : Hp} {vs : List V} {xs : List D} (h : SqK k K F0 a vs) (ia : IsA K mg F0 vs xs) : ItOk K mg J pr (IteK k K a) F0 (enD 0 xs) := by
  refine ⟨fun i F H s1 s2 hi => ?_, fun i F H x H' s1 st hi hy => ?_, fun i F H s1 s2 hi => ?_⟩
  · rw [enD_length] at hi
    obtain ⟨v, hv, _⟩ := ia.get (List.getElem?_eq_getElem hi)
    exact ⟨vs, v, sq_same s2 (sq_same s1 h), hv⟩
  · rw [enD_length] at hi
    obtain ⟨v, hv, iv⟩ := ia.get (List.getElem?_eq_getElem hi)
    obtain ⟨T, y, rfl, n, rfl, f⟩ := hy
    have e := f vs (sq_same st.sub (sq_same s1 h))
    rw [hv] at e
    cases e
    have t := st.laid (o := .tup [.int (i : Nat), v]) n nt_tup
    refine ⟨_, .tup [.int (i : Nat), xs[i]], ?_, t, .tup (.inl (.inl upd_same)) (.cons (.int _) (.cons ((iv.mono s1).mono t.ff) .nil))⟩
    rw [enD_get, List.getElem?_eq_getElem hi, Nat.zero_add]
    rfl
  · rw [enD_length] at hi
    exact ⟨vs, sq_same s2 (sq_same s1 h), by rw [ia.length]; exact hi⟩
theorem itOk_zip {k1 k2 : Bool} {a b : Addr} {F0 : Hp} {vs ws : List V} {xs ys : List D} (h : SqK k1 K F0 a vs) (ia : IsA K mg F0 vs xs) (h2 : SqK k2 K F0 b ws) (ib : IsA K mg F0 ws ys) : ItOk K mg J pr (ItzK k1 k2 K a b) F0 (zipD xs ys) := by
  refine ⟨fun i F H s1 s2 hi => ?_, fun i F H x H' s1 st hi hy => ?_, fun i F H s1 s2 hi => ?_⟩
  · rw [zipD_length] at hi
    obtain ⟨v, hv, _⟩ := ia.get (List.getElem?_eq_getElem (Nat.lt_of_lt_of_le hi (Nat.min_le_left _ _)))
    obtain ⟨u, hu, _⟩ := ib.get (List.getElem?_eq_getElem (Nat.lt_of_lt_of_le hi (Nat.min_le_right _ _)))
    exact ⟨vs, ws, v, u, sq_same s2 (sq_same s1 h), sq_same s2 (sq_same s1 h2), hv, hu⟩
  · rw [zipD_length] at hi
    have hx := List.getElem?_eq_getElem (Nat.lt_of_lt_of_le hi (Nat.min_le_left _ _))
    have hy' := List.getElem?_eq_getElem (Nat.lt_of_lt_of_le hi (Nat.min_le_right _ _))
    obtain ⟨v, hv, iv⟩ := ia.get hx
    obtain ⟨u, hu, iu⟩ := ib.get hy'
    obtain ⟨T, y, z, rfl, n, rfl, f, g⟩ := hy
    have e := f vs (sq_same st.sub (sq_same s1 h))
    rw [hv] at e
    cases e
    have e := g ws (sq_same st.sub (sq_same s1 h2))
    rw [hu] at e
    cases e
    have t := st.laid (o := .tup [v, u]) n nt_tup
    exact ⟨_, _, zipD_get xs ys i _ _ hx hy', t, .tup (.inl (.inl upd_same)) (.cons ((iv.mono s1).mono t.ff) (.cons ((iu.mono s1).mono t.ff) .nil))⟩
  · rw [zipD_length] at hi
    refine ⟨vs, ws, sq_same s2 (sq_same s1 h), sq_same s2 (sq_same s1 h2), ?_⟩
    rw [ia.length, ib.length]
    omega
end
/-- the items of a list or a tuple -/
@[simp] def sqD : D → Option (List D)
  | .lst xs => some xs
  | .tup xs => some xs
  | _ => none
theorem sqD_is {K : PySem.W.Frag} {mg : Str → Option Value} {F : Hp} {v : V} {d : D} {xs : List D} (h : Is K mg F v d) (e : sqD d = some xs) : ∃ k a vs, v = .ref a ∧ SqK k K F a vs ∧ IsA K mg F vs xs := by
  cases d with
  | lst ys =>
    cases e
    obtain ⟨p, vs, rfl, h1, ia⟩ := h.lst_inv
    exact ⟨false, p, vs, rfl, SqL.of h1, ia⟩
  | tup ys =>
    cases e
    obtain ⟨p, vs, rfl, h1, ia⟩ := h.tup_inv
    exact ⟨true, p, vs, rfl, h1, ia⟩
  | _ => cases e
@[simp] def wEn (w : WA) : WI := fun env r => w env fun as e1 => ∃ d xs, reals as = some [d] ∧ sqD d = some xs ∧ r (enD 0 xs) e1
@[simp] def wZp (w : WA) : WI := fun env r => w env fun as e1 => ∃ d d2 xs ys, reals as = some [d, d2] ∧ sqD d = some xs ∧ sqD d2 = some ys ∧ r (zipD xs ys) e1
section
variable {X : Cx} {J : GJ} {e a b : Expr} {w : WA} {p pos tpos : Pos} {elts : List Expr} {kk : Nat}
theorem di_enum (hg : Gl X "enumerate") (hm : X.mg "enumerate" = none) (ha : DA X J [a] w) (hs : starEach [a] X.env = [(false, eval a X.env)] := by rfl) :
    DI X J (.Tuple elts kk tpos) (.Call (.Name "enumerate" p) [a] [] pos) (wEn w) := by
  refine ⟨⟨fun pins s σ H R I ⟨pr, env, F, r, R0, hw, k⟩ => (pi_enumK hg hm (ha.run pr) hs).run pins s σ H R I ⟨env, F, _, R0, hw, fun as e1 vs F1 H1 R1 s1 i1 ⟨d, xs, hj, h1, h2⟩ => ?_⟩⟩⟩
  obtain ⟨v, rfl, iv⟩ := (i1.real hj).one_inv
  obtain ⟨kd, a, vs, rfl, hq, ia⟩ := sqD_is iv h1
  exact ⟨kd, a, vs, rfl, sq_same R1.st.sub hq, k _ _ e1 F1 H1 R1 s1 (fun _ => itOk_enum hq ia) h2⟩
theorem di_zip (hg : Gl X "zip") (hm : X.mg "zip" = none) (ha : DA X J [a, b] w) (hs : starEach [a, b] X.env = (false, eval a X.env) :: starEach [b] X.env := by rfl) (hpl : (backTo pos (starEach [b] X.env)).any (·.1) = false := by rfl) :
    DI X J (.Tuple elts kk tpos) (.Call (.Name "zip" p) [a, b] [] pos) (wZp w) := by
  refine ⟨⟨fun pins s σ H R I ⟨pr, env, F, r, R0, hw, k⟩ => (pi_zipK hg hm (ha.run pr) hs hpl).run pins s σ H R I ⟨env, F, _, R0, hw, fun as e1 vs F1 H1 R1 s1 i1 ⟨d, d2, xs, ys, hj, h1, h1', h2⟩ => ?_⟩⟩⟩
  obtain ⟨v, v2, rfl, iv, iv2⟩ := (i1.real hj).two_inv
  obtain ⟨kd, a, vs, rfl, hq, ia⟩ := sqD_is iv h1
  obtain ⟨kd2, b, ws, rfl, hq2, ib⟩ := sqD_is iv2 h1'
  exact ⟨kd, kd2, a, b, vs, ws, rfl, sq_same R1.st.sub hq, sq_same R1.st.sub hq2, k _ _ e1 F1 H1 R1 s1 (fun _ => itOk_zip hq ia hq2 ib) h2⟩
end
end DL

/-! DL11: sums of tuples, tuples repeated, is None, own[i] += e, own.index, own lists by repeating, dicts written out and asked, tuples of a module. -/
namespace DL
open PySem PySem.Spec PyProof.Rows L2

/-! ### sum -/
@[simp] def oSumA : Prim
  | [.lst xs], q => ∃ ns : List Int, xs = ns.map D.int ∧ q (.int ns.sum)
  | [.tup xs], q => ∃ ns : List Int, xs = ns.map D.int ∧ q (.int ns.sum)
  | _, _ => False
section
variable {X : Cx} {J : GJ}
theorem sum_tupR {prog : Program} {w : World} {A : Around} {E : Value → Shared → Prop} {s : Shared} {l : Addr} {its : List Value} {ns : List Int} {Q : Value → Shared → Prop} (hh : A.handled = none) (hl : s.heap.IsTuple l its.toArray) (hi : IntsAre its ns)
    (h : ∀ h' tk t', (∀ b o, s.heap.get? b = some o → h'.get? b = some o) → Q (.int ns.sum t') { s with heap := h', toks := tk }) : wpAny (model prog w) A (call (.builtin "sum") [.ref l]) Q E s := by
  obtain ⟨xs, e⟩ := hi.allInts.items
  have hn : numsOf (intItems xs).toList = ns := by rw [← e]; exact hi.numsOf
  rw [nums_intItems] at hn
  rw [e] at hl
  refine PySem.W.ktm_sumG hh hl fun h' tk t' hk => ?_
  have := h h' tk t' hk
  rw [preSum_eq, List.take_of_length_le (by simp), hn]; exact this
theorem cd_sumA (hc : X.calm = true) : CallD X J (.builtin "sum") oSumA := by
  intro pins s σ H xs us Q I r ⟨pr, F, ds, q, st, ia, ho, k⟩
  unfold oSumA at ho
  split at ho
  · obtain ⟨a, e, ha⟩ := ia.one_inv
    cases e
    obtain ⟨p1, vs, rfl, h1, a1⟩ := ha.lst_inv st.sub
    obtain ⟨bs, rfl, ho⟩ := ho
    rw [a1.ints] at h1
    exact cr_sum hc pins s σ H _ us Q I r ⟨_, bs, rfl, SqL.of h1, ans st k (.int _) ho⟩
  · obtain ⟨a, e, ha⟩ := ia.one_inv
    cases e
    obtain ⟨p1, vs, rfl, h1, a1⟩ := ha.tup_inv
    obtain ⟨bs, rfl, ho⟩ := ho
    rw [a1.ints] at h1
    obtain ⟨its, rv, p, _⟩ := I.tuple (same_seqT st.sub h1)
    obtain ⟨u, rfl, ru⟩ := vals1 r
    obtain rfl : u = Value.ref p1 := ru
    exact sum_tupR (I.ok.hd hc) p rv.ints fun h' tk t' hk => ⟨.int _, H, I.kept hk, ⟨_, rfl⟩, ans st k (.int _) ho⟩
  · exact ho.elim
end

/-! ### a tuple repeated -/
theorem tuple_mul1 (l : Addr) (items : Array Value) (n : Nat) (dd : Option Addr) (sl : Array (Option Value)) (u : Tok) :
    Meets (Builtin.«tuple.__mul__» ⟨[.ref l, .int 1 u], []⟩) (fun _ R s => s.heap.get? l = some { cls := .type "tuple", dict := dd, data := .seq items n, slots := sl } ∧
      R (.ok (.ret (Value.ref l))) s) :=
  .of_wp fun prog w A R s h => by
    obtain ⟨hp, g, d, tk, os⟩ := s
    obtain ⟨hl, h⟩ := h
    have f1 := AutoSeq1.idx_int
    have c0 : (decide ((1 : Int) < -(2 ^ 63)) || decide ((1 : Int) ≥ 2 ^ 63)) = false := by decide
    have c1 : (items.isEmpty || (1 : Int) == 1) = true := by simp
    wp_walk using wpAny_loadPart' hl
    repeat (first
      | (refine wpAny_ite_false (decide_eq_false (by rw [c0]; exact Bool.false_ne_true)) ?_; wp_walk using wpAny_loadPart' hl)
      | (refine wpAny_ite_true (decide_eq_true c1) ?_; wp_walk using wpAny_loadPart' hl))
    exact ⟨_, rfl, h⟩
theorem op_repT1 {X : Cx} : OpR X (binaryOp .Mult) (fun x y H Q => ∃ l xs, x = .ref l ∧ y = .int 1 ∧ SqT X.K H l xs ∧ Q (.ref l) H) := by
  intro pins s σ H x y v u Q I rx ry h
  obtain ⟨l, xs, rfl, rfl, hT, q⟩ := h
  cases rx
  obtain ⟨t, rfl⟩ := ry
  obtain ⟨its, r, ⟨⟨cls, dd, data, sl⟩, ho, hc, n, hd⟩, hs⟩ := I.tuple hT
  simp only at hc hd
  subst hc hd
  exact wpAny_binaryOp_repeat_ref (T := "tuple") (U := "int") (by decide) ⟨_, ho, rfl⟩ (fun s' => typeIs_int s' 1 t) noFill_tuple_mul F.fills_int_mul F.slot_int_rmul repeat_tuple F.slot_int_index.lookup
    (call_meets F.slot_int_rmul (typeIs_int s 1 t) F.entry_int_rmul (F.args_int_rmul_2 _ _) (int_rmul_tuple 1 t l its.toArray n dd sl)
      ⟨ho, rfl, ⟨_, ho, rfl⟩, call_meets F.slot_tuple_mul ⟨_, ho, rfl⟩ F.entry_tuple_mul (F.args_tuple_mul_2 _ _) (tuple_mul1 l its.toArray n dd sl t) ⟨ho, .ref l, H, I, rfl, q⟩⟩)
@[simp] def oMulA : Prim
  | [.int i, .int j], q => CMul i j ∧ q (.int (i * j))
  | [.lst xs, .int k], q => -(2 ^ 63) ≤ k ∧ k < 2 ^ 63 ∧ xs.length * k.toNat ≤ sizeLine ∧ q (.lst (List.replicate k.toNat xs).flatten)
  | [.tup xs, .int k], q => 1 ≤ k ∧ k ≤ 1000 ∧ 0 < xs.length ∧ xs.length ≤ 1000 ∧ q (.tup (List.replicate k.toNat xs).flatten)
  | _, _ => False
theorem od_mulA {X : Cx} {J : GJ} : OpD X J (binaryOp .Mult) oMulA := by
  intro pins s σ H x y v u Q I rx ry ⟨pr, F, ds, q, st, ia, ho, k⟩
  unfold oMulA at ho
  split at ho
  · obtain ⟨a, b, e, ha, hb⟩ := ia.two_inv
    cases e
    cases ha.int_inv
    cases hb.int_inv
    exact op_mul pins s σ H _ _ v u Q I rx ry ⟨_, _, rfl, rfl, ho.1, ans st k (.int _) ho.2⟩
  · obtain ⟨a, b, e, ha, hb⟩ := ia.two_inv
    cases e
    cases hb.int_inv
    obtain ⟨p1, vs, rfl, h1, a1⟩ := ha.lst_inv st.sub
    exact op_rep pins s σ H _ _ v u Q I rx ry ⟨_, _, vs, rfl, rfl, h1, ho.1, ho.2.1, by rw [a1.length]; exact ho.2.2.1, fun p hp => ansNew st k hp (is_lst (isA_rep a1 _)) ho.2.2.2⟩
  · rename_i xs kk
    obtain ⟨a, b, e, ha, hb⟩ := ia.two_inv
    cases e
    cases hb.int_inv
    obtain ⟨p1, vs, rfl, h1, a1⟩ := ha.tup_inv
    obtain ⟨k1, k2, l1, l2, ho⟩ := ho
    by_cases hk : kk = 1
    · subst hk
      refine op_repT1 pins s σ H _ _ v u Q I rx ry ⟨_, vs, rfl, rfl, same_seqT st.sub h1, ans st k (.tup h1 ?_) ho⟩
      simpa using a1
    · refine op_repT pins s σ H _ _ v u Q I rx ry ⟨_, _, vs, rfl, rfl, same_seqT st.sub h1, ?_, by omega, k2, by rw [a1.length]; exact l2, fun p hp => ansNew st k hp (is_tup (isA_rep a1 _)) ho⟩
      intro z
      have := a1.length
      rw [z] at this
      simp at this
      omega
  · exact ho.elim

/-! ### is None -/
@[simp] def isNonD : D → Bool
  | .non => true
  | _ => false
theorem is_non_iff {K : PySem.W.Frag} {mg : Str → Option Value} {F : Hp} {v : V} {d : D} (h : Is K mg F v d) : decide (v = .non) = isNonD d := by
  cases h <;> simp
@[simp] def wIsN (w : WE) : WE := fun env q => w env fun d e1 => q (.bl (isNonD d)) e1
@[simp] def wIsNn (w : WE) : WE := fun env q => w env fun d e1 => q (.bl (!isNonD d)) e1
section
variable {X : Cx} {J : GJ} {a : Expr} {wa : WE} {pos pos' : Pos}
theorem pc_isN' {j : Nat} {ta : TE} (ha : PE X a ta) : PC X .Is a (.Constant .none j pos') (tIsN ta) := pc_isN ha
theorem de_isN {j : Nat} (ha : DE X J a wa) (h1 : behindInMarks CmpOp.Is (.Constant .none j pos') = false := by first | exact nobehind _ (by decide) (by decide) | rfl) : DE X J (.Compare a [.Is] [.Constant .none j pos'] pos) (wIsN wa) :=
  ⟨fun pr => PE.imp (pe_cmp (pc_isN (ha.run pr)) h1) fun σ H Q ⟨env, F, q, R, hw, k⟩ => ⟨env, F, _, R, hw, fun d e1 v F1 H1 R1 s1 i1 hq => k _ e1 _ F1 H1 R1 s1 (.bl _) (by rw [is_non_iff i1]; exact hq)⟩⟩
theorem de_isNn {j : Nat} (ha : DE X J a wa) (h1 : behindInMarks CmpOp.IsNot (.Constant .none j pos') = false := by first | exact nobehind _ (by decide) (by decide) | rfl) : DE X J (.Compare a [.IsNot] [.Constant .none j pos'] pos) (wIsNn wa) :=
  ⟨fun pr => PE.imp (pe_cmp (pc_notN (ha.run pr)) h1) fun σ H Q ⟨env, F, q, R, hw, k⟩ => ⟨env, F, _, R, hw, fun d e1 v F1 H1 R1 s1 i1 hq => k _ e1 _ F1 H1 R1 s1 (.bl _) (by rw [is_non_iff i1]; exact hq)⟩⟩
theorem dt_isN {j : Nat} (ha : DE X J a wa) (h1 : behindInMarks CmpOp.Is (.Constant .none j pos') = false := by first | exact nobehind _ (by decide) (by decide) | rfl) : DT X J (.Compare a [.Is] [.Constant .none j pos'] pos) (wTB (wIsN wa)) :=
  ⟨fun pr => PT.imp (pt_cmp (pc_isN (ha.run pr)) h1) fun σ H Q ⟨env, F, q, R, hw, k⟩ => ⟨env, F, _, R, hw, fun d e1 v F1 H1 R1 s1 i1 ⟨b, hb, hq⟩ => ⟨_, rfl, k _ e1 F1 H1 R1 s1 (by
    cases hb
    rw [is_non_iff i1]
    exact hq)⟩⟩⟩
theorem dt_isNn {j : Nat} (ha : DE X J a wa) (h1 : behindInMarks CmpOp.IsNot (.Constant .none j pos') = false := by first | exact nobehind _ (by decide) (by decide) | rfl) : DT X J (.Compare a [.IsNot] [.Constant .none j pos'] pos) (wTB (wIsNn wa)) :=
  ⟨fun pr => PT.imp (pt_cmp (pc_notN (ha.run pr)) h1) fun σ H Q ⟨env, F, q, R, hw, k⟩ => ⟨env, F, _, R, hw, fun d e1 v F1 H1 R1 s1 i1 ⟨b, hb, hq⟩ => ⟨_, rfl, k _ e1 F1 H1 R1 s1 (by
    cases hb
    rw [is_non_iff i1]
    exact hq)⟩⟩⟩
end

/-! ### own[i] += e; own.index(e); an own list by repeating -/
def rGetL0 (K : PySem.W.Frag) : V → V → Hp → VK → Prop := fun o i H Q => ∃ p xs k z, o = .ref p ∧ i = .int k ∧ 0 ≤ k ∧ SqL K H p xs ∧ atI xs k = some z ∧ Q z H
theorem get_list0 {X : Cx} : PGet X (rGetL0 X.K) := by
  intro pins s σ H o i ov iv Q I ro ri ⟨p, xs, k, z, e1, e2, h0, hq, he, q⟩
  subst e1 e2
  cases ro
  obtain ⟨t, rfl⟩ := ri
  obtain ⟨its, r, pl, hz⟩ := I.list hq
  obtain ⟨j, h1, h2, h3, h4, h5⟩ := atI_get he
  obtain ⟨w, ew, rw'⟩ := r.get h2
  have hn := line63
  have hj : k.toNat = j := by
    rw [seqIndex_of h0 h5] at h1
    exact Option.some.inj h1
  exact wpAny_getItem_list pl.isList h0 (by omega) (by rw [hj]; simpa using ew) ⟨z, H, I, rw', q⟩
@[simp] def sAugL (i : Nat) (we wf : WE) : WS := fun env E => (∃ xs, env[i]? = some (.own xs)) ∧ we env fun x e1 => ∃ xs j m, e1[i]? = some (.own xs) ∧ x = .int j ∧ 0 ≤ j ∧ atI xs j = some (.int m) ∧ wf e1 fun y e2 => ∃ ys n k, e2[i]? = some (.own ys) ∧ y = .int n ∧ ixN ys.length j = some k ∧
  E.nx (e2.set i (.own (ys.set k (.int (m + n)))))
@[simp] def wIdx (i : Nat) (we : WE) : WE := fun env q => (∃ xs, env[i]? = some (.own xs)) ∧ we env fun d e1 => ∃ (ns : List Int) (m : Int) (j : Nat), e1[i]? = some (.own (ns.map D.int)) ∧ d = .int m ∧ ns[j]? = some m ∧ (∀ j', j' < j → ns[j']? ≠ some m) ∧ q (.int (j : Nat)) e1
@[simp] def wNewRep (wa wb : WE) : WV := fun env q => wa env fun d e1 => wb e1 fun y e2 => ∃ xs k, d = .lst xs ∧ y = .int k ∧ -(2 ^ 63) ≤ k ∧ k < 2 ^ 63 ∧ xs.length * k.toNat ≤ sizeLine ∧ q (.own (List.replicate k.toNat xs).flatten) e2
section
variable {X : Cx} {J : GJ} {o e f a b : Expr} {we wf wa wb : WE} {apos cpos pos tpos : Pos} {i : Nat}
theorem ds_augL (ho : PE X o (tVar i)) (h : DE X J e we) (hf : DE X J f wf)
    (ha : ∀ ov iv new, augStore e ov iv new = (do holding [new, ov, iv] (setItem ov iv new); release [new, ov, iv] []; pure .next) := by intros; rfl) : DS X J (.AugAssign (.Subscript o e tpos) .Add f pos) (sAugL i we wf) := by
  refine ⟨PS.imp (ps_augS ho h.x get_list0 hf.x ip_add set_list ha) fun Z σ H ⟨pr, env, F, E, R, ⟨⟨xs, hx⟩, hw⟩, le⟩ => ?_⟩
  obtain ⟨p, vs, e1, h1, h2, m⟩ := own_at R hx
  refine ⟨_, e1, pr, env, F, _, R, hw, fun x e2 v F2 H2 R2 s2 i2 ⟨ys, j, mm, hy, hd, h0, hat, hw2⟩ => ?_⟩
  subst hd
  cases i2.int_inv
  obtain ⟨p', ws, e3, h3, h4, m'⟩ := own_at R2 hy
  rw [e1] at e3
  cases e3
  obtain ⟨z, hz, iz⟩ := isA_atI h4 hat
  cases iz.int_inv
  refine ⟨p, ws, j, _, rfl, rfl, h0, SqL.of h3, hz, pr, e2, F2, _, R2, hw2, fun y e4 u F4 H4 R4 s4 i4 ⟨zs, n, l, hy4, hd4, hl, hq⟩ => ?_⟩
  subst hd4
  cases i4.int_inv
  obtain ⟨p'', us, e5, h5, h6, m''⟩ := own_at R4 hy4
  rw [e1] at e5
  cases e5
  exact ⟨_, _, rfl, rfl, p, us, j, l, rfl, rfl, h5, by rw [h6.length]; exact hl, le.nx _ σ F4 _ (R4.lset hy4 e1 (h6.set l (.int _))) (s2.trans s4) hq⟩
theorem de_idx (ho : PE X o (tVar i)) (h : DE X J e we) (hbase : attributeBase o "index" X.env (eval o X.env) = eval o X.env := by rfl)
    (hfew : ((backTo cpos (starEach (e :: []) X.env)).all (fun x => !x.1) && (backToKw cpos (keywordEach [] X.env)).all (fun x => x.1.isSome) && decide ((e :: []).length + ([] : List Keyword).length + (if ([] : List Keyword).isEmpty then 0 else 1) < 30)) = true := by rfl)
    (hline : (apos.endLine == cpos.line) = true := by rfl) (hs : starEach (e :: []) X.env = (false, eval e X.env) :: starEach [] X.env := by rfl) (hplain : (backTo cpos (starEach [] X.env)).any (·.1) = false := by rfl) :
    DE X J (.Call (.Attribute o "index" apos) [e] [] cpos) (wIdx i we) := by
  refine ⟨fun pr => PE.imp (pe_bm PySem.F.plainAttrs_list PySem.F.slot_list_index PySem.F.type_list_index mt_index ho (pa_cons h.x pa_nil hs) hbase hfew hline hs hplain) fun σ H Q ⟨env, F, q, R, ⟨⟨xs, hx⟩, hw⟩, k⟩ => ?_⟩
  obtain ⟨p, vs, e1, h1, h2, m⟩ := own_at R hx
  refine ⟨_, e1, .inl ⟨rfl, vs, SqL.of h1⟩, pr, env, F, _, R, hw, fun d e2 v F2 H2 R2 s2 i2 ⟨ns, mm, j, hy, hd, hg, hn, hq⟩ => ?_⟩
  subst hd
  cases i2.int_inv
  obtain ⟨p', ws, e3, h3, h4, m'⟩ := own_at R2 hy
  rw [e1] at e3
  cases e3
  rw [h4.ints] at h3
  refine ⟨p, ns.map V.int, .int mm, j, .int mm, rfl, rfl, SqL.of h3, rfl, ?_, by rw [List.getElem?_map, hg]; rfl, by simp [eqV], fun l z hl hz => ?_, k _ e2 _ F2 _ R2 s2 (.int _) hq⟩
  · rw [List.all_map]
    exact List.all_eq_true.mpr fun _ _ => rfl
  · rw [List.getElem?_map] at hz
    cases hx : ns[l]? with
    | none =>
      rw [hx] at hz
      cases hz
    | some y =>
      rw [hx] at hz
      cases hz
      have := hn l hl
      rw [hx] at this
      simp only [eqV, beq_eq_false_iff_ne]
      exact fun z => this (by rw [z])
theorem dv_rep (ha : DE X J a wa) (hb : DE X J b wb) : DV X J (.BinOp a .Mult b pos) (wNewRep wa wb) := by
  refine ⟨PE.imp (pe_op op_rep ha.x hb.x) fun σ H Q ⟨pr, env, F, q, R, hw, k⟩ => ⟨pr, env, F, _, R, hw, fun d e1 v F1 H1 R1 s1 i1 hw2 => ⟨pr, e1, F1, _, R1, hw2, fun y e2 u F2 H2 R2 s2 i2 ⟨xs, kk, ed, ey, b1, b2, hl, hq⟩ => ?_⟩⟩⟩
  subst ed ey
  cases i2.int_inv
  obtain ⟨p, vs, rfl, h1, ia⟩ := (i1.mono s2).lst_inv
  refine ⟨p, kk, vs, rfl, rfl, R2.st.sub _ _ h1, b1, b2, by rw [ia.length]; exact hl, fun b nb => ?_⟩
  obtain ⟨m, al⟩ := R2.apart nb
  exact k (.own _) e2 _ F2 _ (R2.stp (R2.st.made nb)) (s1.trans s2) ⟨⟨b, _, rfl, upd_same, isA_rep ia _, m⟩, fun _ => al⟩ hq
end

/-! ### a tuple that stands in the module -/
theorem de_gt {X : Cx} {J : GJ} {x : Str} {pos : Pos} {ds : List D} (hg : Gl X x) (hm : ∃ a, X.mg x = some (.ref a) ∧ ∀ F : Hp, Is X.K X.mg F (.ref a) (.tup ds)) (hd : (x == ("__debug__" : Str)) = false := by decide) : DE X J (.Name x pos) (wC (.tup ds)) :=
  let ⟨a, h, hi⟩ := hm
  de_c (pe_glob (v := .ref a) hg h rfl hd) fun F => hi F
end DL

/-! DL12: sorted and min of lists of pairs of ints; dicts written out and asked. -/
namespace DL
open PySem PySem.Spec PyProof.Rows L2 PySem.W PySem.SeqAt

abbrev pairD (p : Int × Int) : D := .tup [.int p.1, .int p.2]
abbrev pairP (p : Int × Int) : PyData := .tuple [.int p.1, .int p.2]
/-- p is before r, or equal -/
def lexLe (p r : Int × Int) : Prop := p.1 < r.1 ∨ (p.1 = r.1 ∧ p.2 ≤ r.2)
section
variable {K : PySem.W.Frag} {mg : Str → Option Value} {F : Hp}
theorem pair_inv {v : V} {p : Int × Int} (h : Is K mg F v (pairD p)) : ∃ t, v = .ref t ∧ SqT K F t [.int p.1, .int p.2] := by
  obtain ⟨a, xs, rfl, hs, ia⟩ := h.tup_inv
  obtain ⟨x, y, rfl, h1, h2⟩ := ia.two_inv
  cases h1.int_inv
  cases h2.int_inv
  exact ⟨a, rfl, hs⟩
theorem pairs_at : ∀ {vs : List V} {ps : List (Int × Int)}, IsA K mg F vs (ps.map pairD) → ∀ v ∈ vs, ∃ p ∈ ps, Is K mg F v (pairD p)
  | _, [], h, v, hv => by
    cases h.nil_inv
    cases hv
  | _, p :: ps, h, v, hv => by
    obtain ⟨x, r, rfl, h1, t⟩ := IsA.cons_inv (h : IsA K mg F _ (pairD p :: ps.map pairD))
    rcases List.mem_cons.mp hv with e | hv
    · subst e
      exact ⟨p, List.mem_cons_self, h1⟩
    · obtain ⟨q, hq, hi⟩ := pairs_at t v hv
      exact ⟨q, List.mem_cons_of_mem _ hq, hi⟩
end
def rSortedPT (K : PySem.W.Frag) : List V → Hp → VK → Prop := fun vs H Q => ∃ (a : Addr) (xs : List V) (k : V → Int × Int), vs = [V.ref a] ∧ SqL K H a xs ∧ (∀ x ∈ xs, ∃ t, x = V.ref t ∧ SqT K H t [.int (k x).1, .int (k x).2]) ∧
  ∀ ys p, SrtO.Srtd (ltP k) ys → SrtO.Stb (ltP k) ys xs → H p = none → Q (.ref p) (upd H p (.lst ys))
section
variable {X : Cx} {J : GJ}
theorem cr_sortedPT : CallR X (.builtin "sorted") (rSortedPT X.K) := by
  intro pins s σ H vs us Q I r h
  obtain ⟨a, xs, k, rfl, hs, hx, q⟩ := h
  obtain ⟨its, rv, hl, hz⟩ := I.list hs
  obtain ⟨u, rfl, ru⟩ := vals1 r
  obtain rfl : u = Value.ref a := ru
  obtain ⟨e1, e2⟩ := refs_back rv fun x m => by
    obtain ⟨t, e, _⟩ := hx x m
    exact ⟨t, e⟩
  refine SrtO.sorted_pairsO (k := fun u => k (backV u)) hl.isList (by rw [← rv.length]; exact hz) (fun v hv => ?_) fun h' d out h1 h2 kp hd hn => ?_
  · obtain ⟨t, rfl⟩ := e2 v hv
    have hm : V.ref t ∈ xs := by rw [e1]; exact List.mem_map.mpr ⟨_, hv, rfl⟩
    obtain ⟨t', e, ht⟩ := hx _ hm
    cases e
    obtain ⟨its2, r2, ⟨o, ho, hc, n, hd⟩, _⟩ := I.tuple ht
    obtain ⟨u1, u2, rfl, ri, rj⟩ := vals2 r2
    obtain ⟨t1, rfl⟩ := ri
    obtain ⟨t2, rfl⟩ := rj
    exact ⟨t, o, t1, t2, n, rfl, ho, hc, hd⟩
  · have h3 : ∀ u ∈ out, ∃ a, u = Value.ref a := fun u hu => e2 u (h2.perm.mem_iff.mp hu)
    obtain ⟨n, hn⟩ := hn
    have hb : SrtO.Stb (ltP k) (out.map backV) xs := by
      rw [e1]
      exact SrtO.Stb.map (ltP_swo k) backV h2
    refine ⟨.ref d, upd H d (.lst (out.map backV)), I.laid (t' := s.toks) kp hd ⟨?_, out, n, vals_back h3, hn⟩, rfl, q _ d (SrtO.srtd_map h1) hb (I.hok.fresh hd)⟩
    rw [hb.len]
    exact hz
@[simp] def oSortP : Prim
  | [.lst xs], q => ∃ ps : List (Int × Int), xs = ps.map pairD ∧ ∀ qs : List (Int × Int), qs.Perm ps → qs.Pairwise lexLe → q (.lst (qs.map pairD))
  | _, _ => False
open Classical in
noncomputable def keyP (K : PySem.W.Frag) (H : Hp) (x : V) : Int × Int := if h : ∃ t, ∃ p : Int × Int, x = .ref t ∧ SqT K H t [.int p.1, .int p.2] then h.choose_spec.choose else (0, 0)
theorem keyP_eq {pins : List (Addr × Obj)} {σ : L2.St} {H : Hp} {s : Shared} (I : Inv X pins σ H s) {x : V} {t : Addr} {p : Int × Int} (e : x = .ref t) (h : SqT X.K H t [.int p.1, .int p.2]) : keyP X.K H x = p := by
  have ex : ∃ t, ∃ p : Int × Int, x = .ref t ∧ SqT X.K H t [.int p.1, .int p.2] := ⟨t, p, e, h⟩
  unfold keyP
  rw [dif_pos ex]
  obtain ⟨e', h'⟩ := ex.choose_spec.choose_spec
  have et : t = ex.choose := by
    have := e.symm.trans e'
    injection this
  have h2 := h
  rw [et] at h2
  have := I.tuple_inj h' h2
  injection this with a b
  injection a with a
  injection b with b _
  injection b with b
  exact Prod.ext a b
theorem cd_sortP : CallD X J (.builtin "sorted") oSortP := by
  intro pins s σ H xs us Q I r ⟨pr, F, ds, q, st, ia, ho, k⟩
  unfold oSortP at ho
  split at ho
  · obtain ⟨a, e, ha⟩ := ia.one_inv
    cases e
    obtain ⟨p1, vs, rfl, h1, a1⟩ := ha.lst_inv st.sub
    obtain ⟨ps, rfl, ho⟩ := ho
    have key : ∀ v ∈ vs, ∃ p ∈ ps, Is X.K X.mg F v (pairD p) ∧ keyP X.K H v = p := fun v hv => by
      obtain ⟨p, hp, hi⟩ := pairs_at a1 v hv
      obtain ⟨t, e, hs⟩ := pair_inv hi
      exact ⟨p, hp, hi, keyP_eq I e (same_seqT st.sub hs)⟩
    have keys : ∀ (ws : List V) (qs : List (Int × Int)), IsA X.K X.mg F ws (qs.map pairD) → ws.map (keyP X.K H) = qs := by
      intro ws
      induction ws with
      | nil =>
        intro qs h
        cases qs with
        | nil => rfl
        | cons p qs => cases h
      | cons w ws ih =>
        intro qs h
        cases qs with
        | nil => cases h
        | cons p qs =>
          obtain ⟨x, r, e, hx, hr⟩ := IsA.cons_inv (h : IsA X.K X.mg F _ (pairD p :: qs.map pairD))
          cases e
          obtain ⟨t, e, hs⟩ := pair_inv hx
          rw [List.map_cons, ih qs hr, keyP_eq I e (same_seqT st.sub hs)]
    refine cr_sortedPT pins s σ H _ us Q I r ⟨p1, vs, keyP X.K H, rfl, SqL.of h1, fun x hx => ?_, fun ys p hsort hstb hp => ?_⟩
    · obtain ⟨pp, _, hi, e⟩ := key x hx
      obtain ⟨t, et, hs⟩ := pair_inv hi
      exact ⟨t, et, by rw [e]; exact same_seqT st.sub hs⟩
    · have mem : ∀ y ∈ ys, Is X.K X.mg F y (pairD (keyP X.K H y)) := fun y hy => by
        obtain ⟨pp, _, hi, e⟩ := key y (hstb.perm.mem_iff.mp hy)
        rw [e]
        exact hi
      have all : ∀ (ws : List V), (∀ y ∈ ws, Is X.K X.mg F y (pairD (keyP X.K H y))) → IsA X.K X.mg F ws ((ws.map (keyP X.K H)).map pairD) := by
        intro ws
        induction ws with
        | nil => intro _; exact .nil
        | cons w ws ih => intro h; exact .cons (h w List.mem_cons_self) (ih fun y hy => h y (List.mem_cons_of_mem _ hy))
      refine ansNew st k hp (is_lst (all ys mem)) (ho _ ?_ ?_)
      · have := hstb.perm.map (keyP X.K H)
        rwa [keys vs ps a1] at this
      · rw [List.pairwise_map]
        exact hsort.imp fun {x y} h => by
          have := SrtO.lexB_no.mp h
          unfold lexLe
          omega
  · exact ho.elim

/-! ### min -/
@[simp] def oMinA : Prim
  | [.lst xs], q => (∃ ns : List Int, xs = ns.map D.int ∧ 0 < ns.length ∧ ∀ m, m ∈ ns → (∀ y, y ∈ ns → m ≤ y) → q (.int m)) ∨
    ∃ ps : List (Int × Int), xs = ps.map pairD ∧ 0 < ps.length ∧ ∀ m, m ∈ ps → (∀ y, y ∈ ps → lexLe m y) → q (pairD m)
  | [.int i, .int j], q => q (.int (if j < i then j else i))
  | _, _ => False
theorem toPyA_pairs : ∀ ps : List (Int × Int), toPyA (ps.map pairD) = some (ps.map pairP)
  | [] => rfl
  | p :: ps => by
    simp [toPyA, toPy, toPyA_pairs ps]
theorem minD_pairs (p : Int × Int) : ∀ ps : List (Int × Int), ∃ m ∈ p :: ps, minD (pairP p) (ps.map pairP) = pairP m ∧ ∀ y ∈ p :: ps, lexLe m y := by
  intro ps
  unfold minD
  induction ps generalizing p with
  | nil => exact ⟨p, List.mem_cons_self, rfl, fun y hy => by
      have : y = p := by simpa using hy
      subst this
      exact .inr ⟨rfl, Int.le_refl _⟩⟩
  | cons r ps ih =>
    rw [List.map_cons, List.foldl_cons]
    have e : (if dataLt (pairP r) (pairP p) then pairP r else pairP p) = pairP (if r.1 < p.1 ∨ (r.1 = p.1 ∧ r.2 < p.2) then r else p) := by
      rw [dataLt_ii]
      by_cases h : r.1 < p.1 ∨ (r.1 = p.1 ∧ r.2 < p.2)
      · rw [if_pos (decide_eq_true h), if_pos h]
      · rw [if_neg (by simpa using h), if_neg h]
    rw [e]
    obtain ⟨m, hm, e2, h⟩ := ih (if r.1 < p.1 ∨ (r.1 = p.1 ∧ r.2 < p.2) then r else p)
    refine ⟨m, ?_, e2, fun y hy => ?_⟩
    · rcases List.mem_cons.mp hm with e | hm
      · rw [e]
        split <;> simp
      · exact List.mem_cons_of_mem _ (List.mem_cons_of_mem _ hm)
    · have h0 := h _ List.mem_cons_self
      unfold lexLe at h0 ⊢
      rcases List.mem_cons.mp hy with e | hy
      · subst e
        split at h0 <;> omega
      · rcases List.mem_cons.mp hy with e | hy
        · subst e
          split at h0 <;> omega
        · exact h y (List.mem_cons_of_mem _ hy)
theorem pair_alike (ps : List (Int × Int)) : AlikeAll (ps.map pairP) := by
  refine ⟨fun x hx y hy => ?_, fun x hx => ?_⟩
  · obtain ⟨p, _, rfl⟩ := List.mem_map.mp hx
    obtain ⟨r, _, rfl⟩ := List.mem_map.mp hy
    rfl
  · obtain ⟨p, _, rfl⟩ := List.mem_map.mp hx
    intro e
    cases e
theorem pair_depth : ∀ ps : List (Int × Int), PyData.depthAll (ps.map pairP) ≤ 60
  | [] => by decide
  | p :: ps => by
    have := pair_depth ps
    have e : (pairP p).depth ≤ 60 := by
      show PyData.depth (.tuple [.int p.1, .int p.2]) ≤ 60
      simp [PyData.depth, PyData.depthAll]
    rw [List.map_cons]
    show max _ _ ≤ 60
    omega
theorem cd_minA (hc : X.calm = true) (hu : X.A.units + 65 < cLine) : CallD X J (.builtin "min") oMinA := by
  intro pins s σ H xs us Q I r ⟨pr, F, ds, q, st, ia, ho, k⟩
  unfold oMinA at ho
  split at ho
  · obtain ⟨a, e, ha⟩ := ia.one_inv
    cases e
    obtain ⟨p1, vs, rfl, h1, a1⟩ := ha.lst_inv st.sub
    rcases ho with ⟨bs, rfl, hl, ho⟩ | ⟨ps, rfl, hl, ho⟩
    · rw [a1.ints] at h1
      exact cr_min hc pins s σ H _ us Q I r ⟨_, bs, rfl, SqL.of h1, hl, fun m h2 h3 => ans st k (.int _) (ho m h2 h3)⟩
    · obtain ⟨u, rfl, ru⟩ := vals1 r
      obtain rfl : u = Value.ref p1 := ru
      obtain ⟨its, rv, p, _⟩ := I.list (SqL.of h1)
      have dp := dpA_mono st.sub (IsA.toDp _ vs _ a1 (toPyA_pairs ps))
      obtain ⟨as, rd⟩ := Dp.readsAll I _ vs its dp rv
      cases ps with
      | nil => cases hl
      | cons p0 ps =>
        obtain ⟨m, hm, em, hle⟩ := minD_pairs p0 ps
        have pl : s.heap.IsList p1 its.toArray := p.isList
        refine min_list_data (x := pairP p0) (xs := ps.map pairP) (I.ok.hd hc) pl rd (pair_alike (p0 :: ps)) (by have := pair_depth (p0 :: ps); rw [List.map_cons] at this; omega) fun i v h' tk bs hv hr hk => ?_
        have hi : its[i]? = some v := by simpa using hv
        have hlt : i < its.length := (List.getElem?_eq_some_iff.mp hi).1
        have hvl : i < vs.length := by rw [rv.length]; exact hlt
        have hz := List.getElem?_eq_getElem hvl
        obtain ⟨u, hu2, ru⟩ := rv.get hz
        rw [hi] at hu2
        cases hu2
        have hpl : i < (p0 :: ps).length := by
          have := a1.length
          rw [List.length_map] at this
          omega
        obtain ⟨z, hz2, iz⟩ := a1.get (i := i) (d := pairD (p0 :: ps)[i]) (by rw [List.getElem?_map, List.getElem?_eq_getElem hpl]; rfl)
        rw [hz] at hz2
        cases hz2
        have e1 : toPy (pairD (p0 :: ps)[i]) = some (pairP (p0 :: ps)[i]) := by simp [toPy, toPyA]
        obtain ⟨as2, r2⟩ := Dp.reads I _ vs[i] v (dp_mono st.sub (Is.toDp _ _ _ iz e1)) ru
        rw [em] at hr
        obtain ⟨e3, _⟩ := reads_det (fun b o e _ => hk b o e) r2 hr
        have e4 : (p0 :: ps)[i] = m := by
          injection e3 with e3
          injection e3 with a b
          injection b with b _
          injection a with a
          injection b with b
          exact (Prod.ext a b).symm
        refine ⟨vs[i], H, I.kept hk, ru, ans st k iz ?_⟩
        rw [e4]
        exact ho m hm hle
  · obtain ⟨a, b, e, ha, hb⟩ := ia.two_inv
    cases e
    cases ha.int_inv
    cases hb.int_inv
    exact call_min2 hc pins s σ H _ us Q I r ⟨_, _, rfl, ans st k (.int _) ho⟩
  · exact ho.elim
end
end DL

/-! DL13: a dict written out, texts for keys, and asked at once. -/
namespace DL
open PySem PySem.Spec PyProof.Rows L2

@[simp] def wPs : List (Str × WE) → En → (List (Key × D) → En → Prop) → Prop
  | [], env, q => q [] env
  | (x, w) :: r, env, q => w env fun d e1 => wPs r e1 fun ds e2 => q ((.inr x, d) :: ds) e2
@[simp] def wAsk (r : List (Str × WE)) (we : WE) : WE := fun env q => wPs r env fun ds e1 => we e1 fun d e2 => ∃ k y, keyOf d = some k ∧ dLook ds k = some y ∧ q y e2
inductive PsD (X : Cx) (J : GJ) : List (Option Expr) → List Expr → List (Str × WE) → Prop
  | nil : PsD X J [] [] []
  | cons {x : Str} {kk : Nat} {pos : Pos} {e : Expr} {w : WE} {ks : List (Option Expr)} {vs : List Expr} {r : List (Str × WE)} : DE X J e w → PsD X J ks vs r → PsD X J (some (.Constant (.str x) kk pos) :: ks) (e :: vs) ((x, w) :: r)
def trsOf (X : Cx) (J : GJ) (r : List (Str × WE)) : List (TE × TE) := r.map fun p => (tC (.str p.1), xE X.K X.mg J p.2)
theorem PsD.pps {X : Cx} {J : GJ} {pos : Pos} {ks : List (Option Expr)} {vs : List Expr} {r : List (Str × WE)} (h : PsD X J ks vs r) : PPs X pos ks vs (trsOf X J r) := by
  induction h with
  | nil => exact pps_nil
  | cons h _ ih => exact pps_cons pe_str h.x ih
theorem wPs_keys : ∀ (r : List (Str × WE)) (env : En) (q : List (Key × D) → En → Prop), wPs r env q → True := fun _ _ _ _ => trivial
theorem tPairs_of {X : Cx} {J : GJ} {pr : Hp} {σ : L2.St} : ∀ (r : List (Str × WE)) (env : En) (F H : Hp) (Q : List (V × V) → Hp → Prop) (q : List (Key × D) → En → Prop), Rep X.K X.mg J pr env σ F H → wPs r env q →
    (∀ (ds : List (Key × D)) (ws : List (Key × V)) env' F' H', Rep X.K X.mg J pr env' σ F' H' → Same F F' → IsKV X.K X.mg F' ws ds → ws.map (·.1) = r.map (fun p => (.inr p.1 : Key)) → q ds env' → Q (ws.map fun kv => (kV kv.1, kv.2)) H') → tPairs (trsOf X J r) σ H Q
  | [], env, F, H, Q, q, R, hw, k => k [] [] env F H R (Same.refl _) .nil rfl hw
  | (x, w) :: r, env, F, H, Q, q, R, hw, k => by
    show tC (.str x) σ H fun x1 H1 => xE X.K X.mg J w σ H1 fun y H2 => tPairs (trsOf X J r) σ H2 fun ps H3 => Q ((x1, y) :: ps) H3
    refine ⟨pr, env, F, _, R, hw, fun d e1 v F1 H1 R1 s1 i1 hw1 => tPairs_of r e1 F1 H1 _ _ R1 hw1 fun ds ws e2 F2 H2 R2 s2 i2 hk hq => ?_⟩
    exact k ((.inr x, d) :: ds) ((.inr x, v) :: ws) e2 F2 H2 R2 (s1.trans s2) (.cons ⟨rfl, i1.mono s2⟩ i2) (by rw [List.map_cons, List.map_cons, hk]) hq
theorem mergeK_nodup : ∀ (more kvs : List (Key × V)), (kvs.map (·.1) ++ more.map (·.1)).Nodup → mergeK kvs more = kvs ++ more
  | [], kvs, _ => by
    rw [List.append_nil]
    rfl
  | p :: r, kvs, h => by
    have hp : putK kvs p.1 p.2 = kvs ++ [p] := by
      unfold putK
      rw [if_neg]
      intro hc
      obtain ⟨kv, hm, he⟩ := List.any_eq_true.mp hc
      have he := of_decide_eq_true he
      rw [List.nodup_append] at h
      exact h.2.2 p.1 (he ▸ List.mem_map.mpr ⟨kv, hm, rfl⟩) p.1 (by simp) rfl
    show mergeK (putK kvs p.1 p.2) r = kvs ++ p :: r
    rw [hp, mergeK_nodup r (kvs ++ [p]) (by simpa using h), List.append_assoc]
    rfl
section
variable {X : Cx} {J : GJ} {e : Expr} {we : WE} {pos pos1 : Pos} {keys : List (Option Expr)} {values : List Expr} {r : List (Str × WE)}
theorem de_ask (hu : X.A.units + 1 < cLine) (h : PsD X J keys values r) (he : DE X J e we) (hs : NoSl e) (hall : keys.all (·.isSome) = true := by rfl) (hl : keys.length = values.length := by rfl) (h0 : keys ≠ [] := by intro z; cases z)
    (h15 : keys.length ≤ 15 := by decide) (nd : (r.map fun p => p.1).Nodup := by decide) (hr : r.length ≤ 15 := by decide) : DE X J (.Subscript (.Dict keys values pos1) e pos) (wAsk r we) := by
  refine ⟨fun pr => PE.imp (pe_dget hu (pe_disp (pos := pos1) h.pps hall hl h0 h15) he.x hs) fun σ H Q ⟨env, F, q, R, hw, k⟩ => ?_⟩
  intro p n
  obtain ⟨m, al⟩ := R.apart n
  have R2 := (R.stp (R.st.made (o := .dK []) n)).more upd_same m nt_dK al
  refine tPairs_of r env F _ _ _ R2 hw fun ds ws e1 F1 H1 R1 s1 i1 hk hw1 => ?_
  have hp := (R1.st.prk p _ upd_same).1
  have hnd : (ws.map (·.1)).Nodup := by
    rw [hk]
    have : r.map (fun p => (.inr p.1 : Key)) = (r.map fun p => p.1).map fun x => (.inr x : Key) := by rw [List.map_map]; rfl
    rw [this]
    exact List.pairwise_map.mpr (List.Pairwise.imp (fun h e => h (by injection e)) nd)
  have hm : mergeK [] ws = ws := by
    have := mergeK_nodup ws [] (by simpa using hnd)
    simpa using this
  have hwl : ws.length = r.length := by
    have := congrArg List.length hk
    simpa using this
  refine ⟨hp, ws, rfl, by omega, ?_⟩
  rw [hm]
  have R3 := R1.wr (o' := .dK ws) m.q nt_dK (fun φ z => by cases z)
  refine ⟨_, e1, F1, _, R3, hw1, fun d e2 v F2 H2 R4 s2 i2 ⟨kk, y, h1, h2, hq⟩ => ?_⟩
  have hp2 := (R4.st.prk p _ upd_same).1
  have i3 := IsKV.mono s2 i1
  obtain ⟨u, hu2, iu⟩ := (i3.look kk).1 y h2
  have ev := key_val i2 h1
  subst ev
  exact ⟨p, u, rfl, by
    have := DGet.k (k := kk) hp2
    rwa [hu2] at this, k y e2 u F2 H2 (R4.less m.q).1 (s1.trans s2) iu hq⟩
end
end DL

/-! DL14: // by greater ints. -/
namespace DL
open PySem PySem.Spec PyProof.Rows L2

@[simp] def oDivA : Prim
  | [.int i, .int j], q => (0 < j ∧ j < 2 ^ 64) ∧ q (.int (i / j))
  | _, _ => False
theorem cdivW {i j : Int} (h : 0 < j ∧ j < 2 ^ 64) : CDivW i j := by
  refine ⟨h.1, ?_⟩
  have h1 : j.natAbs ≠ 0 := by omega
  have h2 : j.natAbs < 2 ^ 64 := by
    have := h.2
    have e : ((2 : Int) ^ 64) = ((2 ^ 64 : Nat) : Int) := by norm_cast
    omega
  have := (Nat.log2_lt h1).mpr h2
  omega
theorem od_divA {X : Cx} {J : GJ} : OpD X J (binaryOp .FloorDiv) oDivA := by
  intro pins s σ H x y v u Q I rx ry ⟨pr, F, ds, q, st, ia, ho, k⟩
  unfold oDivA at ho
  split at ho
  · obtain ⟨a, b, e, ha, hb⟩ := ia.two_inv
    cases e
    cases ha.int_inv
    cases hb.int_inv
    exact op_fdivW pins s σ H _ _ v u Q I rx ry ⟨_, _, rfl, rfl, cdivW ho.1, ans st k (.int _) ho.2⟩
  · exact ho.elim
end DL

/-! DL15: own classes of fields alone: made by __init__, read, asked by isinstance, compared by an own __eq__. -/
namespace DL
open PySem PySem.Spec PyProof.Rows L2

theorem FnG.okF {P : Program} {w : World} {K : PySem.W.Frag} {mg : Str → Option Value} {base : Heap} {CX : CXT} {k : Nat} {f : Addr} {fd : FuncData} {ps : List Str} {sp : Sp} (F : FnG false P w K mg base CX k f fd ps sp) : FnOk P w K mg base CX k f fd ps sp :=
  ⟨F.len, fun A o s H ar us vs Q E r => F.run A o s H ar us vs Q E ⟨r, fun h => nomatch h⟩⟩
/-- all that stands, but the frozen things and J's own, as what others own -/
theorem St8.frame {J : GJ} {pr F H : Hp} (s8 : St8 J pr F H) : ∃ pr' : Hp, St8 J pr' F H ∧ (∀ b, H b = none → pr' b = none) ∧ ∀ F' H', St8 J pr' F' H' → Same F F' → Stp J pr F H F' H' := by
  let own : Hp := fun b => open Classical in if F b = none ∧ ¬ J.mt b ∧ ∀ o, H b = some o → NT o then H b else none
  have o1 : ∀ b o, F b = none → ¬ J.mt b → NT o → H b = some o → own b = some o := fun b o h1 h2 h3 h4 => (if_pos ⟨h1, h2, fun o' e => by rw [h4] at e; cases e; exact h3⟩).trans h4
  have o2 : ∀ b o, own b = some o → F b = none ∧ ¬ J.mt b ∧ H b = some o ∧ NT o := fun b o e => by
    have e' : (open Classical in if F b = none ∧ ¬ J.mt b ∧ ∀ o, H b = some o → NT o then H b else none) = some o := e
    split at e'
    · rename_i h
      exact ⟨h.1, h.2.1, e', h.2.2 o e'⟩
    · cases e'
  refine ⟨own, ⟨s8.sub, fun b o e => ⟨(o2 b o e).2.2.1, (o2 b o e).1⟩, s8.inv, fun b m => ⟨(s8.mtF b m).1, if_neg fun z => z.2.1 m⟩, fun b o e => e.elim (fun e => s8.nt b o (.inl e)) fun e => (o2 b o e).2.2.2⟩, fun b n => ?_, fun F' H' s' ff => ?_⟩
  · cases q : own b with
    | none => rfl
    | some o =>
      rw [(o2 b o q).2.2.1] at n
      cases n
  have stay : ∀ b o, ¬ J.mt b → NT o → H b = some o → H' b = some o := fun b o m t e => by
    cases hF : F b with
    | none => exact (s'.prk b o (o1 b o hF m t e)).1
    | some o' =>
      have e1 := s8.sub b o' hF
      rw [e] at e1
      cases e1
      exact s'.sub b o (ff b o hF)
  refine ⟨⟨s'.sub, fun b o e => ?_, s'.inv, fun b m => ⟨(s'.mtF b m).1, (s8.mtF b m).2⟩, fun b o e => e.elim (fun e => s'.nt b o (.inl e)) fun e => s8.nt b o (.inr e)⟩, ff, stay, fun b o t e f => ?_⟩
  · obtain ⟨h1, h2⟩ := s8.prk b o e
    have m : ¬ J.mt b := fun m => by
      rw [(s8.mtF b m).2] at e
      cases e
    exact s'.prk b o (o1 b o h2 m (s8.nt b o (.inr e)) h1)
  · by_cases m : J.mt b
    · exact (s'.mtF b m).1
    · exact (s'.prk b o (o1 b o f m t e)).2
theorem nt_ins {C dx : Addr} {fs : List (Str × V)} : NT (.ins C dx fs) := fun _ z => by cases z
theorem nt_own {x : Addr} : NT (.own x) := fun _ z => by cases z
/-- one thing more that others own -/
theorem St8.more {J : GJ} {pr F H : Hp} {p : Addr} {o : HO} (s : St8 J pr F H) (h : H p = some o) (f : F p = none) (m : ¬ J.mt p) (ho : NT o) : St8 J (upd pr p o) F H := by
  refine ⟨s.sub, fun b x e => ?_, s.inv, fun b mt => ?_, fun b x e => ?_⟩
  · by_cases hb : b = p
    · subst hb
      rw [upd_same] at e
      cases e
      exact ⟨h, f⟩
    · rw [upd_ne hb] at e
      exact s.prk b x e
  · have hb : b ≠ p := fun z => by
      subst z
      exact m mt
    rw [upd_ne hb]
    exact s.mtF b mt
  · rcases e with e | e
    · exact s.nt b x (.inl e)
    · by_cases hb : b = p
      · subst hb
        rw [upd_same] at e
        cases e
        exact ho
      · rw [upd_ne hb] at e
        exact s.nt b x (.inr e)
/-- .. and back -/
theorem St8.less {J : GJ} {pr F H : Hp} {p : Addr} {o : HO} (s : St8 J (upd pr p o) F H) (q : pr p = none) : St8 J pr F H ∧ H p = some o ∧ F p = none ∧ ¬ J.mt p := by
  have h := s.prk p o upd_same
  have m : ¬ J.mt p := fun z => by
    have := (s.mtF p z).2
    rw [upd_same] at this
    cases this
  refine ⟨⟨s.sub, fun b x e => ?_, s.inv, fun b mt => ⟨(s.mtF b mt).1, ?_⟩, fun b x e => ?_⟩, h.1, h.2, m⟩
  · exact s.prk b x (by rw [upd_ne (ne_of_none e q)]; exact e)
  · have hb : b ≠ p := fun z => m (z ▸ mt)
    have := (s.mtF b mt).2
    rwa [upd_ne hb] at this
  · rcases e with e | e
    · exact s.nt b x (.inl e)
    · exact s.nt b x (.inr (by rw [upd_ne (ne_of_none e q)]; exact e))

/-! ### fields -/
@[simp] def putFD (f : Str) (d : D) : List (Str × D) → List (Str × D)
  | [] => [(f, d)]
  | (g, x) :: r => if g = f then (g, d) :: r else (g, x) :: putFD f d r
section
variable {K : PySem.W.Frag} {mg : Str → Option Value} {F : Hp}
theorem IsF.putF {f : Str} {v : V} {d : D} (h : Is K mg F v d) : ∀ {ws : List (Str × V)} {gs : List (Str × D)}, IsF K mg F ws gs → IsF K mg F (L2.putF f v ws) (putFD f d gs)
  | _, _, .nil => .cons h .nil
  | _, _, .cons (x := x) i t => by
    unfold L2.putF putFD
    by_cases e : x = f
    · rw [if_pos e, if_pos e]
      exact .cons h t
    · rw [if_neg e, if_neg e]
      exact .cons i (IsF.putF h t)
theorem IsF.length : ∀ {ws : List (Str × V)} {gs : List (Str × D)}, IsF K mg F ws gs → ws.length = gs.length
  | _, _, .nil => rfl
  | _, _, .cons _ t => congrArg (· + 1) (IsF.length t)
end

/-- facts of a class -/
structure ClsD (K : PySem.W.Frag) (C : Addr) (fs : List Str) : Prop where
  cls : Cls K C
  na : ∀ f ∈ fs, NoAttr K C f
  ca : PySem.W.findIn K (.ref C) "__class__" = some (some (.builtin "object.__class__"))
  cg : PySem.W.specialIn K (.builtin "object.__class__") "__get__" = some (some (.builtin "getset_descriptor.__get__"))
  ct : PySem.W.takesIn K (.builtin "object.__class__") = some true
  cm : PySem.W.mroIn K C (.type "object") = some true
  bi : ∀ T ∈ ["NoneType", "bool", "int", "str", "tuple", "list"], PySem.W.kitOne K (.type T) (.ref C) = some false
  bs : ∀ T ∈ ["NoneType", "bool", "int", "str", "tuple", "list"], PySem.W.subIn K (.type T) (.ref C) = some false
theorem cls_fld {K : PySem.W.Frag} {mg : Str → Option Value} {c f : Str} {fs : List Str} (h : ∃ C, mg c = some (.ref C) ∧ ClsD K C fs) (hf : f ∈ fs) : ∀ C, mg c = some (.ref C) → Cls K C ∧ NoAttr K C f := fun C e => by
  obtain ⟨C', e', k⟩ := h
  rw [e] at e'
  cases e'
  exact ⟨k.cls, k.na f hf⟩
theorem de_clsE {X : Cx} {J : GJ} {x : Str} {fs : List Str} {pos : Pos} (hg : Gl X x) (h : ∃ C, X.mg x = some (.ref C) ∧ ClsD X.K C fs) (hd : (x == ("__debug__" : Str)) = false := by decide) : DE X J (.Name x pos) (wC (.cls x)) :=
  let ⟨_, e, _⟩ := h
  de_cls hg e hd

/-! ### made by __init__ -/
/-- __init__ of the class c, called with an instance that bears nothing yet -/
def spInit (K : PySem.W.Frag) (mg : Str → Option Value) (c : Str) (S : Spec) (n : Nat) : Sp := fun vs H Q _ => vs.length = n + 1 ∧ ∃ (a C dx : Addr) (us : List V) (J : GJ) (pr F : Hp) (ds : List D) (q : D → Prop), vs = .ref a :: us ∧ mg c = some (.ref C) ∧
  St8 J (upd pr a (.ins C dx [])) F H ∧ pr a = none ∧ IsA K mg F us ds ∧ S J ds q ∧
  ∀ ws gs F' H', St8 J (upd pr a (.ins C dx ws)) F' H' → Same F F' → IsF K mg F' ws gs → q (.ins c gs) → Q .non H'
structure CalC (P : Program) (w : World) (K : PySem.W.Frag) (mg : Str → Option Value) (base : Heap) (k : Nat) (c : Str) (S : Spec) (n : Nat) : Prop where
  ex : ∃ (C f : Addr) (fd : FuncData) (ps : List Str), Mk K C f ∧ FnG false P w K mg base L2.CX0 k f fd ps (spInit K mg c S n) ∧ mg c = some (.ref C) ∧ Binds K fd ps []
section
variable {g : Bool} {X : Cx} {J : GJ} {S : Spec} {n k j : Nat} {x : Str} {p pos : Pos} {e : Expr} {es : List Expr} {w : WA}
theorem de_make (c : CalC X.prog X.w X.K X.mg X.base k x S n) (hr : Rm g j X.A) (hk : k + 1 ≤ j) (hg : Gl X x) (ha : DA X J (e :: es) w)
    (hdb : (x == ("__debug__" : Str)) = false := by decide) (he : starEach (e :: es) X.env = (false, eval e X.env) :: starEach es X.env := by rfl) (hpl : (backTo pos (starEach es X.env)).any (·.1) = false := by rfl) :
    DE X J (.Call (.Name x p) (e :: es) [] pos) (wCall J S n w) := by
  obtain ⟨C, f, fd, ps, M, F, hm, hb⟩ := c.ex
  refine ⟨fun pr => PE.imp (pe_make (dvs := []) M F.okF (hr.mono hk).rm hg hm hb .nil L2.pass0 (ha.run pr) hdb he hpl) fun σ H Q ⟨env, F, q, R, hw, k⟩ => ?_⟩
  refine ⟨env, F, _, R, hw, fun as e1 vs F1 H1 R1 s1 i1 ⟨ds, h1, hn, h2⟩ a dx na nd ne => ?_⟩
  have ia := i1.real h1
  obtain ⟨pr1, st1, fr, out⟩ := R1.st.frame
  have Fd : F1 dx = none := st1.sub.free nd
  have Fa : F1 a = none := st1.sub.free na
  have md : ¬ J.mt dx := fun m => J.at_ F1 H1 dx st1.inv m nd
  have ma : ¬ J.mt a := fun m => J.at_ F1 H1 a st1.inv m na
  have st2 := ((st1.made (o := .own a) nd).st).more upd_same Fd md nt_own
  have na2 : upd H1 dx (.own a) a = none := by rw [upd_ne (Ne.symm ne)]; exact na
  have st3 := ((st2.made (o := .ins C dx []) na2).st).more upd_same Fa ma nt_ins
  have pa : upd pr1 dx (.own a) a = none := by rw [upd_ne (Ne.symm ne)]; exact fr a na
  refine ⟨by simp [ia.length, hn], a, C, dx, vs, J, upd pr1 dx (.own a), F1, ds, _, by simp, hm, st3, pa, ia, h2, fun ws gs F' H' st' s' hf hq => ⟨rfl, ?_⟩⟩
  obtain ⟨st4, h4, f4, m4⟩ := st'.less pa
  have st5 := st4.freeze h4 f4 pa m4 nt_ins
  obtain ⟨st6, _, _, _⟩ := st5.less (fr dx nd)
  have sm : Same F' (upd F' a (.ins C dx ws)) := same_upd' f4
  have t := out _ _ st6 (s'.trans sm)
  exact k _ e1 (.ref a) _ _ (R1.stp t) (s1.trans t.ff) (.ins hm upd_same (hf.mono sm)) hq
end

/-- the rest of __init__: what others own, the instance with what it bears so far -/
abbrev WN := En → List (Str × D) → (List (Str × D) → Prop) → Prop
def tN (K : PySem.W.Frag) (mg : Str → Option Value) (J : GJ) (c : Str) (w : WN) : TS := fun Z σ H => ∃ (pr : Hp) (env : En) (F : Hp) (a C dx : Addr) (ws : List (Str × V)) (gs : List (Str × D)) (q : List (Str × D) → Prop),
  Rep K mg J (upd pr a (.ins C dx ws)) env σ F H ∧ pr a = none ∧ env[0]? = some (.val (.tk a)) ∧ mg c = some (.ref C) ∧ IsF K mg F ws gs ∧ w env gs q ∧
  ∀ ws' gs' env' σ' F' H', Rep K mg J (upd pr a (.ins C dx ws')) env' σ' F' H' → Same F F' → IsF K mg F' ws' gs' → q gs' → Z.nx σ' H'
structure DN (X : Cx) (J : GJ) (c : Str) (st : List Stmt) (w : WN) : Prop where
  run : PSs X st (tN X.K X.mg J c w)
@[simp] def nNil : WN := fun _ gs q => q gs
@[simp] def nPre (w : WS) (r : WN) : WN := fun env gs q => w env { nx := fun e => e[0]? = env[0]? ∧ r e gs q, rt := fun _ _ => False }
@[simp] def nFld (f : Str) (w : WE) (r : WN) : WN := fun env gs q => w env fun d e => e[0]? = env[0]? ∧ gs.length < 1000 ∧ r e (putFD f d gs) q
section
variable {X : Cx} {J : GJ} {c f : Str} {st : Stmt} {rest : List Stmt} {w : WS} {we : WE} {r : WN} {o e : Expr} {p pos : Pos}
theorem dn_nil : DN X J c [] nNil := ⟨PSs.imp pss_nil fun Z σ H ⟨pr, env, F, a, C, dx, ws, gs, q, R, hp, h0, hm, hf, hw, k⟩ => k ws gs env σ F H R (Same.refl _) hf hw⟩
theorem dn_pre (h : DS X J st w) (h' : DN X J c rest r) : DN X J c (st :: rest) (nPre w r) := by
  refine ⟨PSs.imp (pss_cons h.run h'.run) fun Z σ H ⟨pr, env, F, a, C, dx, ws, gs, q, R, hp, h0, hm, hf, hw, k⟩ => ?_⟩
  refine ⟨_, env, F, _, R, hw, ⟨fun e1 σ1 F1 H1 R1 s1 ⟨e0, hr⟩ => ?_, fun _ _ _ _ _ _ _ _ _ z => z.elim, fun _ _ _ _ _ _ z => z.elim, fun _ _ _ _ _ _ z => z.elim⟩⟩
  exact ⟨pr, e1, F1, a, C, dx, ws, gs, q, R1, hp, e0.trans h0, hm, hf.mono s1, hr, fun ws' gs' env' σ' F' H' R' s' hf' hq => k ws' gs' env' σ' F' H' R' (s1.trans s') hf' hq⟩
theorem dn_fld {fs : List Str} (hc : ∃ C, X.mg c = some (.ref C) ∧ ClsD X.K C fs) (hf : f ∈ fs) (ho : PE X o (tVar 0)) (h : DE X J e we) (h' : DN X J c rest r) (hs : swapsWith e (some (.Attribute o f p)) pos.line X.env = pure false := by rfl) :
    DN X J c (.Assign [.Attribute o f p] e pos :: rest) (nFld f we r) := by
  refine ⟨PSs.imp (pss_cons (ps_fld ho h.x hs) h'.run) fun Z σ H ⟨pr, env, F, a, C, dx, ws, gs, q, R, hp, h0, hm, hgs, hw, k⟩ => ?_⟩
  refine ⟨_, env, F, _, R, hw, fun d e1 y F1 H1 R1 s1 i1 ⟨e0, hl, hr⟩ => ?_⟩
  obtain ⟨o0, eo, v0, rfl, iv⟩ := R1.at (e0.trans h0)
  cases iv.tk_inv
  obtain ⟨k1, k2⟩ := cls_fld hc hf C hm
  have g1 := hgs.mono s1
  have hH := R1.st.prk a _ upd_same
  refine ⟨_, eo, a, C, dx, ws, rfl, hH.1, k1, k2, by rw [g1.length]; exact hl, ?_⟩
  refine ⟨pr, e1, F1, a, C, dx, _, _, q, R1.wr hp nt_ins (fun φ z => by cases z), hp, e0.trans h0, hm, g1.putF i1, hr, fun ws' gs' env' σ' F' H' R' s' hf' hq => k ws' gs' env' σ' F' H' R' (s1.trans s') hf' hq⟩
end
section
variable {P : Program} {w : World} {K : PySem.W.Frag} {mg : Str → Option Value} {base : Heap}
/-- THE RULE for an __init__ -/
theorem cal_N {k n : Nat} {f C : Addr} {c x qual : Str} {st : Stmt} {fd : FuncData} {N ps : List Str} {S : Spec} {wb : GJ → WN} (M : Mk K C f) (hm : mg c = some (.ref C)) (Fu : L2.Fun K x qual st f fd) (Sc : FnScope N ps (defScope st)) (hb : Binds K fd ps []) (hn : ps.length = n + 1)
    (body : ∀ (J : GJ) (cd : Value) (A : Around) (outer : List Env) (s : Shared) (H : Hp) (E : XK), Rm false k (A.deeper (envOfC qual (defScope st) s.heap.objs.size f cd)) → DN (cxOf L2.CX0 P w K mg base N qual (defScope st) f cd A outer s H E).nox J c (defBody st) (wb J))
    (ver : ∀ (J : GJ) (a : Addr) (ds : List D) (q : D → Prop), ds.length = n → S J ds q → wb J (startE N (.tk a :: ds)) [] fun gs => q (.ins c gs)) : CalC P w K mg base (k + 1) c S n := by
  refine ⟨C, f, fd, ps, M, fnG_of Fu Sc (fun vs H Q E h => ?_) fun cd A outer s H vs Q E hr ⟨hl, a, C', dx, us, J, pr, F, ds, q, hv, hm', st8, hp, ia, hS, k⟩ => ?_, hm, hb⟩
  · rw [h.1, hn]
  · subst hv
    refine ⟨_, (body J cd A outer s H E hr).run.nox, ?_⟩
    have R := start_rep (N := N) st8 (IsA.cons (.tk a) ia)
    have hd : ds.length = n := by
      rw [← ia.length]
      simpa using hl
    exact ⟨pr, _, F, a, C', dx, [], [], _, R, hp, rfl, hm', .nil, ver J a ds q hd hS, fun ws' gs' env' σ' F' H' R' s' hf hq => k ws' gs' F' H' R'.st s' hf hq⟩
end

/-! ### isinstance of an own class -/
/-- d an instance of the class c? (of instances: told of those of c alone) -/
@[simp] def isC (c : Str) : D → Option Bool
  | .ins c' _ => if c' = c then some true else none
  | .non => some false
  | .bl _ => some false
  | .int _ => some false
  | .str _ => some false
  | .tup _ => some false
  | .lst _ => some false
  | _ => none
@[simp] def oIsiC (c0 : Str) : Prim
  | [d, .cls c], q => c = c0 ∧ ∃ b, isC c0 d = some b ∧ q (.bl b)
  | _, _ => False
theorem isC_ty {K : PySem.W.Frag} {mg : Str → Option Value} {F H : Hp} {c : Str} {C : Addr} {fs : List Str} {v : V} {d : D} {b : Bool} (hm : mg c = some (.ref C)) (hC : ClsD K C fs) (s : Same F H) (h : IsB K mg F H v d) (e : isC c d = some b) : ∃ t, TyX K H v t ∧ PySem.W.kitOne K t (.ref C) = some b ∧ (t = .ref C ∨ PySem.W.subIn K t (.ref C) = some false) := by
  cases d with
  | non => cases e; exact ⟨.type "NoneType", tyX_of s h rfl, hC.bi _ (by simp), .inr (hC.bs _ (by simp))⟩
  | bl x => cases e; exact ⟨.type "bool", tyX_of s h rfl, hC.bi _ (by simp), .inr (hC.bs _ (by simp))⟩
  | int x => cases e; exact ⟨.type "int", tyX_of s h rfl, hC.bi _ (by simp), .inr (hC.bs _ (by simp))⟩
  | str x => cases e; exact ⟨.type "str", tyX_of s h rfl, hC.bi _ (by simp), .inr (hC.bs _ (by simp))⟩
  | tup x => cases e; exact ⟨.type "tuple", tyX_of s h rfl, hC.bi _ (by simp), .inr (hC.bs _ (by simp))⟩
  | lst x => cases e; exact ⟨.type "list", tyX_of s h rfl, hC.bi _ (by simp), .inr (hC.bs _ (by simp))⟩
  | ins c' gs =>
    simp only [isC] at e
    split at e
    · rename_i hc
      subst hc
      cases e
      rcases h with h | ⟨_, _, _, _, z, _⟩
      · obtain ⟨a, C', dx, ws, rfl, hm', h1, _⟩ := h.ins_inv
        rw [hm] at hm'
        cases hm'
        refine ⟨.ref C, .base (.ins (s _ _ h1) hC.cls hC.ca hC.cg hC.ct hC.cm), ?_, .inl rfl⟩
        simp [PySem.W.kitOne]
      · cases z
    · cases e
  | tk _ => cases e
  | ty _ => cases e
  | cls _ => cases e
theorem cd_isiC {X : Cx} {J : GJ} {c : Str} {fs : List Str} (hC : ∃ C, X.mg c = some (.ref C) ∧ ClsD X.K C fs) : CallD X J (.builtin "isinstance") (oIsiC c) := by
  intro pins s σ H vs us Q I r ⟨pr, F, ds, q, st, ia, ho, k⟩
  unfold oIsiC at ho
  split at ho
  · obtain ⟨x, y, rfl, hx, hy⟩ := ia.two_inv
    obtain ⟨rfl, b, hb, hq⟩ := ho
    obtain ⟨C, hm, hC⟩ := hC
    obtain ⟨t, t1, t2, _⟩ := isC_ty hm hC st.sub hx hb
    rcases hy with hy | ⟨_, _, _, _, z, _⟩
    · obtain ⟨C', rfl, hm'⟩ := hy.cls_inv
      rw [hm] at hm'
      cases hm'
      exact call_isi pins s σ H _ us Q I r ⟨x, .ref C, t, .ref C, b, rfl, by constructor, t1, t2, ans st k (.bl _) hq⟩
    · cases z
  · exact ho.elim

/-! ### == by an own __eq__ -/
structure CalE (P : Program) (w : World) (K : PySem.W.Frag) (mg : Str → Option Value) (base : Heap) (k : Nat) (c : Str) (S : Spec) : Prop where
  ex : ∃ (C f : Addr) (fd : FuncData) (ps fs : List Str), mg c = some (.ref C) ∧ ClsD K C fs ∧ PySem.W.findIn K (.ref C) "__eq__" = some (some (.ref f)) ∧ PySem.W.isFn K (.ref f) = true ∧ Binds K fd ps [] ∧ FnG false P w K mg base L2.CX0 k f fd ps (spD K mg S 2)
@[simp] def noL : D → Bool
  | .lst _ => false
  | _ => true
@[simp] def oEqC (c0 : Str) (J : GJ) (S : Spec) : Prim
  | [.ins c gs, d], q => c = c0 ∧ noL d = true ∧ (∃ b, isC c0 d = some b) ∧ S J [.ins c gs, d] fun r => (∃ b, r = .bl b) ∧ q r
  | _, _ => False
theorem od_eqC {g : Bool} {X : Cx} {J : GJ} {c : Str} {S : Spec} {k j : Nat} (cE : CalE X.prog X.w X.K X.mg X.base k c S) (hr : Rm g j X.A) (hk : k ≤ j) : OpD X J (compareOp .Eq) (oEqC c J S) := by
  rintro pins s σ H x y v u Q I rx ry ⟨pr, F, ds, q, st, ia, ho, k'⟩
  have hd : ∃ gs d, ds = [.ins c gs, d] ∧ noL d = true ∧ (∃ b, isC c d = some b) ∧ S J [.ins c gs, d] fun r => (∃ b, r = .bl b) ∧ q r := by
    unfold oEqC at ho
    split at ho
    · obtain ⟨rfl, h⟩ := ho
      exact ⟨_, _, rfl, h⟩
    · exact ho.elim
  obtain ⟨gs, d, rfl, hnl, ⟨bb, hbb⟩, hS⟩ := hd
  obtain ⟨a, b, e, ha, hb⟩ := ia.two_inv
  cases e
  obtain ⟨C, f, fd, ps, fs, hm, hC, hs, hf, hB, FE⟩ := cE.ex
  have ha' : Is X.K X.mg F x (.ins c gs) := by
    rcases ha with ha | ⟨_, _, _, _, z, _⟩
    · exact ha
    · cases z
  have hb' : Is X.K X.mg F y d := by
    rcases hb with hb | ⟨_, _, _, _, z, _⟩
    · exact hb
    · subst z
      cases hnl
  obtain ⟨p, C', dx, ws, rfl, hm', h1, hF⟩ := ha'.ins_inv
  rw [hm] at hm'
  cases hm'
  cases (show v = Value.ref p from rx)
  obtain ⟨t, t1, _, t3⟩ := isC_ty hm hC st.sub hb hbb
  obtain ⟨Pk, Z, pk, _⟩ := kit_of I ry t1
  obtain ⟨mA, Jn, _⟩ := ins_get I.hok (st.sub _ _ h1)
  obtain ⟨od, Jn, _⟩ := Jn.look
  obtain ⟨m, hFr⟩ := I.fr
  show wpAny (model X.prog X.w) X.A (richCompare .Eq (.ref p) u) (EP X pins σ Q) X.xe s
  refine PySem.W.cmp_K (op := .Eq) (tb := t) (hr.mono hk).rm.units0 hFr I.ok.mod.kin Jn (Z.ty _ _ I.kIn pk) ?_ hs hf ?_
  · unfold PySem.W.notFirst
    rcases t3 with t3 | t3
    · subst t3
      simp
    · rw [t3]
      simp
  · have hsp : spD X.K X.mg S 2 [.ref p, y] H (fun z H' => (∃ b, z = .bl b) ∧ Q z H') (fun _ _ _ => False) := by
      refine ⟨rfl, J, pr, F, _, _, st, .cons ha' (.cons hb' .nil), hS, fun r z F' H' t i hq => ?_⟩
      obtain ⟨⟨b, rfl⟩, hq⟩ := hq
      exact ⟨⟨b, i.bl_inv⟩, k' _ z F' H' t i hq⟩
    refine thn (run_fn (us := [.ref p, u]) (vs := [.ref p, y]) (dvs := []) (ds := []) FE.okF (hr.mono hk).rm hB .nil L2.pass0 I (.cons rfl (.cons ry .nil)) hsp) fun r s' ⟨z, H', I', rz, ⟨b, hz⟩, hq⟩ => ?_
    subst hz
    cases (show r = Value.bool b from rz)
    exact ⟨.bl b, _, I', rfl, hq⟩
end DL

/-! DL16: sum of lists behind a list, is True, bits, // by great ints, tuple(range(n)). -/
namespace DL
open PySem PySem.Spec PyProof.Rows L2

/-! ### sum(lists, list) -/
section
variable {prog : Program} {w : World} {A : Around} {R : Result → Shared → Prop} {E : Value → Shared → Prop}
theorem args_sum2 (a b : Value) : argsOk "sum" ⟨[a, b], []⟩ := by unfold argsOk; kernel_rfl
/-- a list stands at p -/
def LsAt (h : Heap) (p : Addr) (its : Array Value) : Prop := ∃ c, h.get? p = some { cls := .type "list", dict := none, data := .seq its c, slots := #[] }
/-- the first i of some lists behind one another -/
def preCat (tot : Array Value) (items : Nat → Array Value) : Nat → Array Value
  | 0 => tot
  | i + 1 => preCat tot items i ++ items i
theorem preCat_mono {tot : Array Value} {items : Nat → Array Value} : ∀ {i j : Nat}, i ≤ j → (preCat tot items i).size ≤ (preCat tot items j).size := by
  intro i j h
  induction j with
  | zero =>
    have : i = 0 := by omega
    subst this
    exact Nat.le_refl _
  | succ j ih =>
    by_cases e : i = j + 1
    · subst e
      exact Nat.le_refl _
    · refine Nat.le_trans (ih (by omega)) ?_
      show _ ≤ (preCat tot items j ++ items j).size
      rw [Array.size_append]
      omega
theorem sum_cat_loop {I : Addr} {fp wr : List Addr} {n : Nat} {P : Nat → Value → Prop} {St : Nat → Heap → Prop} (W : Walks prog w A.in1 I fp wr n P St) (tot : Array Value) (ad : Nat → Addr) (items : Nat → Array Value) (S lo : Addr) (hSf : S ∉ fp) (hP : ∀ i v, P i v → v = .ref (ad i))
    (hz : (preCat tot items n).size ≤ sizeLine) (h0 : Heap) (hlo : h0.objs.size = lo) (hin : ∀ i, i < n → ∃ c, h0.get? (ad i) = some { cls := .type "list", dict := none, data := .seq (items i) c, slots := #[] }) (hS0 : lo ≤ S) (hwr : ∀ b ∈ wr, lo ≤ b) (hw2 : ∀ i h, St i h → ∀ b ∈ wr, b < h.objs.size) :
    ∀ (k i : Nat) (s : Shared) (t : Addr) (c : Nat), n - i = k → i ≤ n → St i s.heap → s.heap.get? S = some { cls := .type "list", dict := none, data := .seq #[.ref t] c, slots := #[] } →
    (∀ b o, h0.get? b = some o → s.heap.get? b = some o) → LsAt s.heap t (preCat tot items i) → t ∉ wr → t ≠ S → (i = 0 ∨ lo ≤ t) →
    (∀ h' tk t', (∀ b o, h0.get? b = some o → h'.get? b = some o) → LsAt h' t' (preCat tot items n) → (n = 0 → i = 0 ∧ t' = t) → (0 < n → lo ≤ t') → R (.ok (.ret (.ref t'))) { s with heap := h', toks := tk }) →
    codeAny (model prog w) A (.builtin "sum.loop" ⟨[.ref I, .ref S, rawInt 2, rawInt 0], []⟩) R s := by
  have hSw : S ∉ wr := fun h => hSf (W.sub _ h)
  have old : ∀ {b o}, h0.get? b = some o → b ∉ wr ∧ b ≠ S := fun {b o} e => by
    have hb : b < lo := hlo ▸ Heap.lt_size e
    exact ⟨fun z => Nat.lt_irrefl _ (Nat.lt_of_lt_of_le hb (hwr b z)), fun z => Nat.lt_irrefl _ (Nat.lt_of_lt_of_le hb (z ▸ hS0))⟩
  intro k
  induction k with
  | zero =>
    intro i s t c hk hi hst hS hkeep hT htw htS hlt hR
    obtain rfl : i = n := by omega
    refine codeAny_builtin F.entry_sum_loop (?_ : wpAny (model prog w) _ _ _ _ s)
    rw [show Around.under _ _ = A.in1 from Around.under_plainId F.plain_sum_loop _]
    show wpAny _ A.in1 (seqItems? (.ref S) >>= fun x => _) _ _ s
    refine wpAny_bind (wpAny_seqItems hS rfl (?_ : wpAny _ A.in1 (tryCatch (pyNext (.ref I)) _ >>= fun x => _) _ _ s))
    refine wpAny_bind (wpAny_tryCatch (W.done s _ _ hst fun h' tk kp => wpAny_pure ?_))
    obtain ⟨c', hT⟩ := hT
    refine hR h' tk t (fun b o e => kp b o (old e).1 (hkeep b o e)) ⟨c', kp t _ htw hT⟩ (fun z => ⟨z, rfl⟩) fun z => hlt.resolve_left (by omega)
  | succ k ih =>
    intro i s t c hk hi hst hS hkeep hT htw htS hlt hR
    have hlt' : i < n := by omega
    refine codeAny_builtin F.entry_sum_loop (?_ : wpAny (model prog w) _ _ _ _ s)
    rw [show Around.under _ _ = A.in1 from Around.under_plainId F.plain_sum_loop _]
    show wpAny _ A.in1 (seqItems? (.ref S) >>= fun x => _) _ _ s
    refine wpAny_bind (wpAny_seqItems hS rfl (?_ : wpAny _ A.in1 (tryCatch (pyNext (.ref I)) _ >>= fun x => _) _ _ s))
    refine wpAny_bind (wpAny_tryCatch (W.item i s _ _ hlt' hst fun v h' tk pv st' kp => ?_))
    cases hP i v pv
    obtain ⟨c', hT⟩ := hT
    obtain ⟨ci, hI⟩ := hin i hlt'
    have hT' := kp t _ htw hT
    have hI' := kp _ _ (old hI).1 (hkeep _ _ hI)
    have hS' := kp S _ hSw hS
    have hsz : (preCat tot items i).size + (items i).size ≤ sizeLine := by
      have := preCat_mono (tot := tot) (items := items) (show i + 1 ≤ n from hlt')
      rw [show preCat tot items (i + 1) = preCat tot items i ++ items i from rfl, Array.size_append] at this
      omega
    show wpAny _ A.in1 ((holding [Value.ref (ad i)] (binaryOp .Add (.ref t) (.ref (ad i)))).attempt >>= fun x => _) _ _ _
    refine wpAny_bind (wpAny_attempt (wpAny_holding (PySem.P.add_list hT' hI' ?_ hsz)))
    show wpAny _ A.in1 (updateSeq S (fun _ => #[.ref h'.objs.size]) >>= fun x => _) _ _ _
    have hS2 : (h'.push { cls := .type "list", data := .seq (preCat tot items i ++ items i) }).get? S = _ := Heap.get?_push_of_some _ hS'
    refine wpAny_bind (wpAny_updateSeq hS2 rfl ?_)
    have hS3 := Heap.get?_update_self (Obj.mapSeq fun _ => #[Value.ref h'.objs.size]) hS2 rfl
    refine wpAny_bind (wpAny_letGo (wpAny_bind (wpAny_updateSeq hS3 rfl (wpAny_pure ?_))))
    have hnew : h'.objs.size ≠ S := fun z => Nat.lt_irrefl _ (z ▸ Heap.lt_size hS')
    have up : ∀ {b : Addr} {o : Obj}, b ≠ S → h'.get? b = some o → ((((h'.push { cls := .type "list", data := .seq (preCat tot items i ++ items i) }).update S (Obj.mapSeq fun _ => #[Value.ref h'.objs.size])).update S (Obj.mapSeq fun _ => #[Value.ref h'.objs.size])).get? b = some o) := fun {b o} hb e =>
      (Heap.get?_update_other _ _ (Ne.symm hb)).trans ((Heap.get?_update_other _ _ (Ne.symm hb)).trans (Heap.get?_push_of_some _ e))
    have hwn : h'.objs.size ∉ wr := fun z => Nat.lt_irrefl _ (hw2 _ _ st' _ z)
    refine ⟨plainId_quiet F.plain_sum_loop _, ih (i + 1) _ h'.objs.size _ (by omega) hlt' (W.frame _ _ _ st' fun b hb o e => up (fun z => hSf (z ▸ hb)) e) (Heap.get?_update_self _ hS3 rfl) (fun b o e => up (old e).2 (kp b o (old e).1 (hkeep b o e)))
      ⟨0, (Heap.get?_update_other _ _ (Ne.symm hnew)).trans ((Heap.get?_update_other _ _ (Ne.symm hnew)).trans (Heap.get?_push_size _ rfl))⟩ hwn hnew (.inr ?_) fun h'' tk' t' k1 k2 k3 k4 => ?_⟩
    · exact Nat.le_trans hS0 (Nat.le_of_lt (Heap.lt_size hS'))
    · exact hR h'' tk' t' k1 k2 (fun z => by omega) k4
theorem sum_cat {a b : Addr} {s : Shared} {n : Nat} {src : Array Value} {c0 : Nat} {tot : Array Value} {ad : Nat → Addr} {items : Nat → Array Value} {Q : Value → Shared → Prop} (hh : A.handled = none) (hl : s.heap.get? a = some { cls := .type "list", dict := none, data := .seq src c0, slots := #[] }) (hs : src.size = n)
    (hv : ∀ (i : Nat) (v : Value), src[i]? = some v → v = Value.ref (ad i)) (hb : LsAt s.heap b tot) (hin : ∀ i, i < n → ∃ c, s.heap.get? (ad i) = some { cls := .type "list", dict := none, data := .seq (items i) c, slots := #[] }) (hz : (preCat tot items n).size ≤ sizeLine)
    (h : ∀ h' tk t', (∀ b o, s.heap.get? b = some o → h'.get? b = some o) → LsAt h' t' (preCat tot items n) → (n = 0 → t' = b) → (0 < n → s.heap.objs.size ≤ t') → Q (.ref t') { s with heap := h', toks := tk }) :
    wpAny (model prog w) A (call (.builtin "sum") [.ref a, .ref b]) Q E s := by
  refine call_function_tree F.kind_sum F.plain_sum F.entry_sum (args_sum2 _ _) (?_ : wpAny _ _ (Builtin.«sum» _) _ _ s)
  unfold Builtin.«sum»
  simp only [List.length_cons, List.length_nil]
  rw [if_neg (by decide : ¬ (0 + 1 + 1 + 0 > 2))]
  refine wpAny_bind (wpAny_of_eq (show Builtin.Builtins.bindParams "sum" ["start"] 0 { pos := [Value.ref b] } = pure [some (Value.ref b)] from rfl) ?_)
  have hI : a ≠ s.heap.objs.size := Nat.ne_of_lt (Heap.lt_size hl)
  have W := Walks.list (prog := prog) (w := w) (A := A.in1) hh s.heap.objs.size a hI src
  have bT : ∀ {h : Heap} {g d t o}, (∀ z u, s.heap.get? z = some u → h.get? z = some u) → (⟨h, g, d, t, o⟩ : Shared).TypeIs (.ref b) "list" := fun {h g d t o} k => by
    obtain ⟨c, e⟩ := hb
    exact ⟨_, k _ _ e, rfl⟩
  have k1 : ∀ z u, s.heap.get? z = some u → (s.heap.push { cls := .type "list_iterator", data := .fields #[.ref a, .int 0 0] }).get? z = some u := fun z u e => Heap.get?_push_of_some _ e
  refine wpAny_bind (wpAny_pyIter_list ⟨_, hl, rfl, _, rfl⟩ (wpAny_bind (wpAny_pure ?_)))
  simp only [List.forIn_cons, List.forIn_nil]
  refine wpAny_bind (wpAny_bind (wpAny_bind (wpAny_isInstance (T := "list") (b := false) (bT k1) F.sub_list_str ?_)))
  simp only [Bool.false_eq_true, if_false]
  refine wpAny_pure (wpAny_bind (wpAny_bind (wpAny_isInstance (T := "list") (b := false) (bT k1) F.sub_list_bytes ?_)))
  simp only [Bool.false_eq_true, if_false]
  refine wpAny_pure (wpAny_bind (wpAny_bind (wpAny_isInstance (T := "list") (b := false) (bT k1) F.sub_list_bytearray ?_)))
  simp only [Bool.false_eq_true, if_false]
  refine wpAny_pure (wpAny_pure (wpAny_bind (wpAny_newObj_type ?_)))
  have k2 : ∀ z u, s.heap.get? z = some u → ((s.heap.push { cls := .type "list_iterator", data := .fields #[.ref a, .int 0 0] }).push { cls := .type "list", data := .seq #[Value.ref b] }).get? z = some u := fun z u e => Heap.get?_push_of_some _ (k1 z u e)
  have sz : (s.heap.push { cls := .type "list_iterator", data := .fields #[.ref a, .int 0 0] }).objs.size = s.heap.objs.size + 1 := by simp [Heap.push]
  refine wpAny_pure ⟨plainId_quiet F.plain_sum_loop _, ?_⟩
  obtain ⟨cb, eb⟩ := hb
  have tne : ∀ {c : Addr}, s.heap.objs.size ≤ c → b ≠ c := fun {c} hc z => Nat.lt_irrefl _ (Nat.lt_of_lt_of_le (z ▸ Heap.lt_size eb) hc)
  refine sum_cat_loop W tot ad items _ s.heap.objs.size (fun z => ?_) (fun i v pv => hv i v pv) (hs ▸ hz) s.heap rfl (fun i hi => hin i (hs ▸ hi)) ?_ (fun c hc => ?_) (fun i h st c hc => ?_) src.size 0 _ b 0 rfl (Nat.zero_le _) ⟨?_, ⟨_, k2 _ _ hl, rfl, _, rfl⟩⟩ (Heap.get?_push_size _ rfl) k2 ⟨cb, k2 _ _ eb⟩ (fun z => ?_) (tne ?_) (.inl rfl) fun h' tk t' g1 g2 g3 g4 => ?_
  · rcases List.mem_cons.mp z with z | z
    · rw [sz] at z
      exact Nat.succ_ne_self _ z
    · rw [sz] at z
      have := List.mem_singleton.mp z
      exact Nat.lt_irrefl _ (Nat.lt_of_lt_of_le (this ▸ Heap.lt_size hl) (Nat.le_succ _))
  · rw [sz]
    exact Nat.le_succ _
  · rw [List.mem_singleton.mp hc]
    exact Nat.le_refl _
  · rw [List.mem_singleton.mp hc]
    obtain ⟨o, e, _⟩ := st.1
    exact Heap.lt_size e
  · exact ⟨_, Heap.get?_push_of_some _ (Heap.get?_push_size _ rfl), rfl, rfl⟩
  · exact tne (Nat.le_refl _) (List.mem_singleton.mp z)
  · rw [sz]
    exact Nat.le_succ _
  · exact h h' tk t' g1 (hs ▸ g2) (fun z => (g3 (hs.trans z)).2) fun z => g4 (hs.symm ▸ z)
end

@[simp] def oSumL : Prim
  | [.lst xs, .lst ys], q => ∃ zs : List (List D), zs ≠ [] ∧ xs = zs.map D.lst ∧ (ys ++ zs.flatten).length ≤ sizeLine ∧ q (.lst (ys ++ zs.flatten))
  | _, _ => False
theorem cd_sumL {X : Cx} {J : GJ} (hc : X.calm = true) : CallD X J (.builtin "sum") oSumL := by
  rintro pins s σ H vs us Q I r ⟨pr, F, ds, q, st, ia, ho, k⟩
  have hd : ∃ (zs : List (List D)) (ys : List D), ds = [.lst (zs.map D.lst), .lst ys] ∧ zs ≠ [] ∧ (ys ++ zs.flatten).length ≤ sizeLine ∧ q (.lst (ys ++ zs.flatten)) := by
    unfold oSumL at ho
    split at ho
    · obtain ⟨zs, h1, rfl, h2⟩ := ho
      exact ⟨zs, _, rfl, h1, h2⟩
    · exact ho.elim
  obtain ⟨zs, ys, rfl, hne, hsz, hq⟩ := hd
  obtain ⟨v1, v2, rfl, b1, b2⟩ := ia.two_inv
  obtain ⟨a, ws, rfl, ha, ia1⟩ := b1.lst_inv st.sub
  obtain ⟨b, ts, rfl, hb, ia2⟩ := b2.lst_inv st.sub
  obtain ⟨u1, u2, rfl, r1, r2⟩ := vals2 r
  cases (show u1 = Value.ref a from r1)
  cases (show u2 = Value.ref b from r2)
  obtain ⟨z1, its, n1, rv1, hl1, e1⟩ := I.lstM ha
  obtain ⟨z2, its2, n2, rv2, hl2, e2⟩ := I.lstM hb
  have hlen : ws.length = zs.length := by simpa using ia1.length
  have hch : ∀ i : Nat, ∃ (p : Addr) (it : List Value) (vi : List V), i < zs.length → ws[i]? = some (.ref p) ∧ (∃ c, s.heap.get? p = some { cls := .type "list", dict := none, data := .seq it.toArray c, slots := #[] }) ∧ Vals vi it ∧ IsA X.K X.mg F vi (zs.getD i []) := by
    intro i
    by_cases hi : i < zs.length
    · obtain ⟨v, hv, iv⟩ := ia1.get (i := i) (d := .lst zs[i]) (by simp [List.getElem?_eq_getElem hi])
      obtain ⟨p, vi, rfl, hp, iv⟩ := iv.lst_inv
      obtain ⟨zi, iti, ni, rvi, hli, ei⟩ := I.lstM (st.sub _ _ hp)
      exact ⟨p, iti, vi, fun _ => ⟨hv, ⟨ni, ei⟩, rvi, by rw [List.getD_eq_getElem?_getD, List.getElem?_eq_getElem hi]; exact iv⟩⟩
    · exact ⟨0, [], [], fun h => absurd h hi⟩
  let ad : Nat → Addr := fun i => Classical.choose (hch i)
  let itm : Nat → List Value := fun i => Classical.choose (Classical.choose_spec (hch i))
  let vv : Nat → List V := fun i => Classical.choose (Classical.choose_spec (Classical.choose_spec (hch i)))
  have hs : ∀ i, i < zs.length → ws[i]? = some (.ref (ad i)) ∧ (∃ c, s.heap.get? (ad i) = some { cls := .type "list", dict := none, data := .seq (itm i).toArray c, slots := #[] }) ∧ Vals (vv i) (itm i) ∧ IsA X.K X.mg F (vv i) (zs.getD i []) :=
    fun i hi => Classical.choose_spec (Classical.choose_spec (Classical.choose_spec (hch i))) hi
  have hpre : ∀ i, i ≤ zs.length → ∃ va : List V, Vals va (preCat its2.toArray (fun i => (itm i).toArray) i).toList ∧ IsA X.K X.mg F va (ys ++ (zs.take i).flatten) := by
    intro i
    induction i with
    | zero =>
      intro _
      exact ⟨ts, by simpa [preCat] using rv2, by simpa using ia2⟩
    | succ i ih =>
      intro hi
      obtain ⟨va, h1, h2⟩ := ih (by omega)
      obtain ⟨_, _, h3, h4⟩ := hs i hi
      refine ⟨va ++ vv i, ?_, ?_⟩
      · show Vals _ (preCat its2.toArray (fun i => (itm i).toArray) i ++ (itm i).toArray).toList
        rw [Array.toList_append]
        exact h1.append h3
      · have e : (zs.take (i + 1)).flatten = (zs.take i).flatten ++ zs.getD i [] := by
          rw [List.take_succ, List.flatten_append, List.getElem?_eq_getElem hi, List.getD_eq_getElem?_getD, List.getElem?_eq_getElem hi]
          simp
        rw [e, ← List.append_assoc]
        exact h2.append h4
  obtain ⟨va, w1, w2⟩ := hpre zs.length (Nat.le_refl _)
  rw [List.take_length] at w2
  have hlw : (preCat its2.toArray (fun i => (itm i).toArray) zs.length).size ≤ sizeLine := by
    rw [← Array.length_toList, ← w1.length, w2.length]
    exact hsz
  refine sum_cat (n := zs.length) (ad := ad) (items := fun i => (itm i).toArray) (tot := its2.toArray) (I.ok.hd hc) e1 (by rw [List.size_toArray, ← rv1.length, hlen]) (fun i v hv => ?_) ⟨_, e2⟩ (fun i hi => (hs i hi).2.1) hlw fun h' tk t' g1 g2 g3 g4 => ?_
  · have hi : i < zs.length := by
      have := (Array.getElem?_eq_some_iff.mp hv).1
      rw [List.size_toArray, ← rv1.length, hlen] at this
      exact this
    obtain ⟨u, hu, ru⟩ := rv1.get (hs i hi).1
    rw [List.getElem?_toArray, hu] at hv
    cases hv
    exact ru
  · obtain ⟨c, hc'⟩ := g2
    have hfr := g4 (List.length_pos_iff.mpr hne)
    refine ⟨.ref t', _, I.laid (t' := tk) (o := .lst va) g1 hfr ?_, rfl, ansNew st k (I.hok.fresh hfr) (is_lst w2) hq⟩
    exact ⟨by rw [w2.length]; exact hsz, _, _, w1, hc'⟩
end DL

/-! DL17: is True, bits of numbers from 0 on, // by great ints, tuple(range(n)). -/
namespace DL
open PySem PySem.Spec PyProof.Rows L2
@[simp] def oIsB : Prim
  | [.bl a, .bl b], q => q (.bl (a == b))
  | _, _ => False
@[simp] def oIsBn : Prim
  | [.bl a, .bl b], q => q (.bl (!(a == b)))
  | _, _ => False
@[simp] def oBand : Prim
  | [.int i, .int j], q => (0 ≤ i ∧ 0 ≤ j) ∧ q (.int ((i.toNat &&& j.toNat : Nat) : Int))
  | _, _ => False
@[simp] def oBor : Prim
  | [.int i, .int j], q => (0 ≤ i ∧ 0 ≤ j) ∧ q (.int ((i.toNat ||| j.toNat : Nat) : Int))
  | _, _ => False
@[simp] def oBxor : Prim
  | [.int i, .int j], q => (0 ≤ i ∧ 0 ≤ j) ∧ q (.int ((i.toNat ^^^ j.toNat : Nat) : Int))
  | _, _ => False
@[simp] def oDivW : Prim
  | [.int i, .int j], q => (0 < j ∧ j < 2 ^ 4096) ∧ q (.int (i / j))
  | _, _ => False
section
variable {X : Cx} {J : GJ}
theorem dec_beq (a b : Bool) : decide (a = b) = (a == b) := by cases a <;> cases b <;> rfl
theorem od_isB : OpD X J (compareOp .Is) oIsB := by
  intro pins s σ H x y v u Q I rx ry ⟨pr, F, ds, q, st, ia, ho, k⟩
  unfold oIsB at ho
  split at ho
  · obtain ⟨a, b, e, ha, hb⟩ := ia.two_inv
    cases e
    cases ha.bl_inv
    cases hb.bl_inv
    exact op_is_bl pins s σ H _ _ v u Q I rx ry ⟨_, _, rfl, rfl, by rw [dec_beq]; exact ans st k (.bl _) ho⟩
  · exact ho.elim
theorem od_isBn : OpD X J (compareOp .IsNot) oIsBn := by
  intro pins s σ H x y v u Q I rx ry ⟨pr, F, ds, q, st, ia, ho, k⟩
  unfold oIsBn at ho
  split at ho
  · obtain ⟨a, b, e, ha, hb⟩ := ia.two_inv
    cases e
    cases ha.bl_inv
    cases hb.bl_inv
    exact op_isnot_bl pins s σ H _ _ v u Q I rx ry ⟨_, _, rfl, rfl, by rw [dec_beq]; exact ans st k (.bl _) ho⟩
  · exact ho.elim
theorem od_band : OpD X J (binaryOp .BitAnd) oBand := by
  intro pins s σ H x y v u Q I rx ry ⟨pr, F, ds, q, st, ia, ho, k⟩
  unfold oBand at ho
  split at ho
  · obtain ⟨a, b, e, ha, hb⟩ := ia.two_inv
    cases e
    cases ha.int_inv
    cases hb.int_inv
    exact op_and pins s σ H _ _ v u Q I rx ry ⟨_, _, rfl, rfl, by show Q (.int (Builtin.bitAnd _ _)) H; rw [bitAnd_pp ho.1.1 ho.1.2]; exact ans st k (.int _) ho.2⟩
  · exact ho.elim
theorem od_bor : OpD X J (binaryOp .BitOr) oBor := by
  intro pins s σ H x y v u Q I rx ry ⟨pr, F, ds, q, st, ia, ho, k⟩
  unfold oBor at ho
  split at ho
  · obtain ⟨a, b, e, ha, hb⟩ := ia.two_inv
    cases e
    cases ha.int_inv
    cases hb.int_inv
    exact op_or pins s σ H _ _ v u Q I rx ry ⟨_, _, rfl, rfl, by show Q (.int (Builtin.bitOr _ _)) H; rw [Bits.bitOr_pp ho.1.1 ho.1.2]; exact ans st k (.int _) ho.2⟩
  · exact ho.elim
theorem od_bxor : OpD X J (binaryOp .BitXor) oBxor := by
  intro pins s σ H x y v u Q I rx ry ⟨pr, F, ds, q, st, ia, ho, k⟩
  unfold oBxor at ho
  split at ho
  · obtain ⟨a, b, e, ha, hb⟩ := ia.two_inv
    cases e
    cases ha.int_inv
    cases hb.int_inv
    exact op_xor pins s σ H _ _ v u Q I rx ry ⟨_, _, rfl, rfl, by show Q (.int (Builtin.bitXor _ _)) H; rw [Bits.bitXor_pp ho.1.1 ho.1.2]; exact ans st k (.int _) ho.2⟩
  · exact ho.elim
theorem od_divW : OpD X J (binaryOp .FloorDiv) oDivW := by
  intro pins s σ H x y v u Q I rx ry ⟨pr, F, ds, q, st, ia, ho, k⟩
  unfold oDivW at ho
  split at ho
  · obtain ⟨a, b, e, ha, hb⟩ := ia.two_inv
    cases e
    cases ha.int_inv
    cases hb.int_inv
    refine op_fdivW pins s σ H _ _ v u Q I rx ry ⟨_, _, rfl, rfl, wide_div ho.1.1 (b := 4096) ?_ (by decide) (by decide), ans st k (.int _) ho.2⟩
    have h1 := ho.1.1
    have h2 := ho.1.2
    have e : ((2 : Int) ^ 4096) = ((2 ^ 4096 : Nat) : Int) := by norm_cast
    rw [e] at h2
    omega
  · exact ho.elim
end
@[simp] def wTRg (w : WE) : WE := fun env q => w env fun d e1 => ∃ n : Int, d = .int n ∧ (-1000 ≤ n ∧ n ≤ 1000) ∧ q (.tup (rgD 0 1 n.toNat)) e1
theorem de_trg {X : Cx} {J : GJ} {e : Expr} {we : WE} {p p2 pos pos2 : Pos} (hc : X.calm = true) (hg : Gl X "tuple") (hm : X.mg "tuple" = none) (hg2 : Gl X "range") (hm2 : X.mg "range" = none) (h : DE X J e we)
    (na : starEach [e] X.env = (false, eval e X.env) :: starEach [] X.env := by rfl) (na2 : starEach [.Call (.Name "range" p2) [e] [] pos2] X.env = (false, eval (.Call (.Name "range" p2) [e] [] pos2) X.env) :: starEach [] X.env := by rfl) :
    DE X J (.Call (.Name "tuple" p) [.Call (.Name "range" p2) [e] [] pos2] [] pos) (wTRg we) := by
  refine ⟨fun pr => PE.imp (pe_tupRg hc hg hm (prg_1 hg2 hm2 (h.run pr) na) na2) fun σ H Q ⟨env, F, q, R, hw, k⟩ => ⟨env, F, _, R, hw, fun d e1 v F1 H1 R1 s1 i1 ⟨n, hd, hn, hq⟩ => ?_⟩⟩
  subst hd
  refine ⟨n, i1.int_inv, ?_, fun p np => ?_⟩
  · refine ⟨by omega, by omega, by omega, by omega, ?_⟩
    omega
  · obtain ⟨R2, s2⟩ := R1.laid (o := .tup (rgV 0 n)) np
    exact k _ e1 _ _ _ R2 (s1.trans s2) (.tup (SqT.of upd_same) (isA_rg n)) hq
end DL

/-! DL18: own exceptions: raised, let through by defs, caught. -/
namespace DL
open PySem PySem.Spec PyProof.Rows L2

/-- the error's dict bears these fields -/
def XfAt (K : PySem.W.Frag) (mg : Str → Option Value) (F : Hp) (d : Option Addr) (fs : List (Str × D)) : Prop := match d with
  | none => fs = []
  | some dd => ∃ ws, F dd = some (.xd ws) ∧ IsF K mg F ws fs
theorem XfAt.mono {K : PySem.W.Frag} {mg : Str → Option Value} {F F' : Hp} {d : Option Addr} {fs : List (Str × D)} (h : XfAt K mg F d fs) (s : Same F F') : XfAt K mg F' d fs := by
  cases d with
  | none => exact h
  | some dd =>
    obtain ⟨ws, h1, h2⟩ := h
    exact ⟨ws, s _ _ h1, h2.mono s⟩
/-- raised things come to W -/
structure LeX (K : PySem.W.Frag) (mg : Str → Option Value) (J : GJ) (pr F : Hp) (E : DEnds) (W : WX) : Prop where
  rs : ∀ c C fs d env' σ' F' H', Rep K mg J pr env' σ' F' H' → Same F F' → mg c = some (.ref C) → XfAt K mg F' d fs → E.rs c fs env' → W (.ref C) d σ' H'
theorem LeX.mono {K : PySem.W.Frag} {mg : Str → Option Value} {J : GJ} {pr F F' : Hp} {E : DEnds} {W : WX} (h : LeX K mg J pr F E W) (s : Same F F') : LeX K mg J pr F' E W :=
  ⟨fun c C fs d e σ F2 H R t => h.rs c C fs d e σ F2 H R (s.trans t)⟩
def tX (K : PySem.W.Frag) (mg : Str → Option Value) (J : GJ) (W : WX) (w : WS) : TS := fun Z σ H => ∃ (pr : Hp) (env : En) (F : Hp) (E : DEnds), Rep K mg J pr env σ F H ∧ w env E ∧ LeE K mg J pr F E Z ∧ LeX K mg J pr F E W
structure DX (X : Cx) (J : GJ) (W : WX) (st : Stmt) (w : WS) : Prop where
  run : PS X st (tX X.K X.mg J W w)
structure DXs (X : Cx) (J : GJ) (W : WX) (st : List Stmt) (w : WS) : Prop where
  run : PSs X st (tX X.K X.mg J W w)

section
variable {X : Cx} {J : GJ} {W : WX} {st : Stmt} {rest : List Stmt} {w u : WS} {wt : WT} {pos : Pos}
theorem dx_of (h : DS X J st w) : DX X J W st w := ⟨PS.imp h.run fun Z σ H ⟨pr, env, F, E, R, hw, le, _⟩ => ⟨pr, env, F, E, R, hw, le⟩⟩
theorem dxs_of (h : DSs X J rest w) : DXs X J W rest w := ⟨PSs.imp h.run fun Z σ H ⟨pr, env, F, E, R, hw, le, _⟩ => ⟨pr, env, F, E, R, hw, le⟩⟩
theorem dxs_nil : DXs X J W [] sNil := dxs_of dss_nil
theorem dxs_cons (h : DX X J W st w) (h' : DXs X J W rest u) : DXs X J W (st :: rest) (sSeq w u) :=
  ⟨PSs.imp (pss_cons h.run h'.run) fun Z σ H ⟨pr, env, F, E, R, hw, le, lx⟩ => ⟨pr, env, F, _, R, hw, ⟨fun e1 σ1 F1 H1 R1 s1 hq => ⟨pr, e1, F1, E, R1, hq, le.mono s1, lx.mono s1⟩, le.rt, le.bk, le.ct⟩, ⟨lx.rs⟩⟩⟩
theorem dxs_one (h : DX X J W st w) : DXs X J W [st] w := ⟨pss_one h.run⟩
theorem dx_if {c : Expr} {a b : List Stmt} (hc : DT X J c wt) (ha : DXs X J W a w) (hb : DXs X J W b u) : DX X J W (.If c a b pos) (sIf wt w u) := by
  refine ⟨PS.imp (ps_if (xT_of hc) ha.run hb.run) fun Z σ H ⟨pr, env, F, E, R, hw, le, lx⟩ => ⟨pr, env, F, _, R, hw, fun b e1 F1 H1 R1 s1 hq => ?_⟩⟩
  cases b with
  | true => exact ⟨pr, e1, F1, E, R1, hq, le.mono s1, lx.mono s1⟩
  | false => exact ⟨pr, e1, F1, E, R1, hq, le.mono s1, lx.mono s1⟩
theorem dx_for {tg iter : Expr} {body : List Stmt} {wi : WI} {g : WG} {vs : List Nat} (hp : PassesOwn (model X.prog X.w) X.A X.env X.xe) (hc : X.calm = true) (hi : DI X J tg iter wi) (hg : DG X J tg vs g) (hb : DXs X J W body w) (hs : ∀ x, foldedSetIterable iter X.env x = pure x := by intro _; rfl) : DX X J W (.For tg iter body [] pos) (sFor wi g w) := by
  refine ⟨PS.imp (ps_for hp hc hi.run hg.run hb.run hs) fun Z σ H ⟨pr, env, F, E, R, hw, le, lx⟩ => ⟨pr, env, F, _, R, hw, fun It xs e1 F1 H1 R1 s1 itok hgo => ?_⟩⟩
  refine ⟨fun i m σ' H' => ∃ e F', Rep X.K X.mg J pr e σ' F' H' ∧ Same F1 F' ∧ m = xs.length - i ∧ i ≤ xs.length ∧ forGo g w E (xs.drop i) e, ⟨xs.length, e1, F1, R1, Same.refl _, by omega, Nat.zero_le _, hgo⟩, ?_⟩
  rintro i m σ' H' ⟨e, F', R', s', rfl, hi, hg'⟩
  by_cases hlt : i < xs.length
  · refine .inr ⟨(itok pr).go i F' H' s' R'.st.sub hlt, fun σ2 H2 => ∃ m', m' < xs.length - i ∧ ∃ e F', Rep X.K X.mg J pr e σ2 F' H2 ∧ Same F1 F' ∧ m' = xs.length - (i + 1) ∧ i + 1 ≤ xs.length ∧ forGo g w E (xs.drop (i + 1)) e, fun _ _ h => h, fun x H2 hy => ?_⟩
    obtain ⟨F2, d, hd, t, ix⟩ := (itok pr).yld i F' H' x H2 s' R'.st hlt hy
    have hdr : xs.drop i = d :: xs.drop (i + 1) := by
      obtain ⟨hl, e⟩ := List.getElem?_eq_some_iff.mp hd
      rw [List.drop_eq_getElem_cons hl, e]
    rw [hdr] at hg'
    refine ⟨pr, e, F2, d, _, R'.stp t, ix, hg', fun e3 σ3 F3 H3 R3 s3 _ _ hq => ?_⟩
    have sF : Same F1 F3 := (s'.trans t.ff).trans s3
    have le' := le.mono (s1.trans sF)
    have lx' := lx.mono (s1.trans sF)
    exact ⟨pr, e3, F3, _, R3, hq, ⟨fun e4 σ4 F4 H4 R4 s4 hq4 => ⟨xs.length - (i + 1), by omega, e4, F4, R4, sF.trans s4, rfl, by omega, hq4⟩, le'.rt, fun e4 σ4 F4 H4 R4 s4 hq4 => le'.nx e4 σ4 F4 H4 R4 s4 hq4,
      fun e4 σ4 F4 H4 R4 s4 hq4 => ⟨xs.length - (i + 1), by omega, e4, F4, R4, sF.trans s4, rfl, by omega, hq4⟩⟩, ⟨lx'.rs⟩⟩
  · have e0 : i = xs.length := by omega
    subst e0
    rw [List.drop_length] at hg'
    exact .inl ⟨(itok pr).stop _ F' H' s' R'.st.sub (Nat.le_refl _), le.nx e σ' F' H' R' (s1.trans s') hg'⟩
end

/-! ### defs that may raise -/
abbrev SpecX := GJ → List D → (D → Prop) → (Str → List (Str × D) → Prop) → Prop
def spDX (K : PySem.W.Frag) (mg : Str → Option Value) (S : SpecX) (n : Nat) : Sp := fun vs H Q E => vs.length = n ∧ ∃ (J : GJ) (pr F : Hp) (ds : List D) (q : D → Prop) (xq : Str → List (Str × D) → Prop), St8 J pr F H ∧ IsA K mg F vs ds ∧ S J ds q xq ∧
  (∀ d z F' H', Stp J pr F H F' H' → Is K mg F' z d → q d → Q z H') ∧ ∀ c C fs d F' H', Stp J pr F H F' H' → mg c = some (.ref C) → XfAt K mg F' d fs → xq c fs → E (.ref C) d H'
structure CalX (g : Bool) (P : Program) (w : World) (K : PySem.W.Frag) (mg : Str → Option Value) (base : Heap) (k : Nat) (x : Str) (S : SpecX) (n : Nat) : Prop where
  ex : ∃ (f : Addr) (fd : FuncData) (ps : List Str), FnG g P w K mg base (L2.CX P w) k f fd ps (spDX K mg S n) ∧ mg x = some (.ref f) ∧ PySem.W.keepIn K (.ref f) = true ∧ Binds K fd ps []
section
variable {g : Bool} {X : Cx} {CX : CXT} {k : Nat} {f : Addr} {fd : FuncData} {ps : List Str} {sp : Sp} {E : L2.St → XK} {x : Str} {p pos : Pos} {e : Expr} {es : List Expr} {t : TA}
theorem pe_callSG (F : FnG g X.prog X.w X.K X.mg X.base CX k f fd ps sp) (hr : Rm g k X.A) (hg : Gl X x) (hm : X.mg x = some (.ref f)) (hk : PySem.W.keepIn X.K (.ref f) = true) (hb : Binds X.K fd ps []) (hx : ∀ σ, PassesAt CX X σ (E σ)) (ha : PA X (e :: es) t)
    (hdb : (x == ("__debug__" : Str)) = false := by decide) (he : starEach (e :: es) X.env = (false, eval e X.env) :: starEach es X.env := by rfl) (hpl : (backTo pos (starEach es X.env)).any (·.1) = false := by rfl) :
    PE X (.Call (.Name x p) (e :: es) [] pos) (fun σ H Q => t σ H fun vs H1 => sp vs H1 Q (E σ)) := by
  refine ⟨fun pins s σ H Q I h => wpAny_Call_Name_kw (ld_glob I hg hm (PySem.W.callWith_K (h₀ := X.base) I.ok.mod.kin hk (thn (ha.run pos pins s σ H _ I h) fun us s1 ⟨vs, H1, I1, r, q⟩ => ⟨I1.kIn, ?_⟩) he hpl) hdb)⟩
  have hl : us.length = ps.length := r.length.symm.trans (F.len _ _ _ _ q)
  have hbs := hb s1 us I1.kIn (by rw [List.append_nil]; exact hl)
  rw [List.append_nil] at hbs
  refine wpAny_call (codeAny_mono (F.run X.A X.stack s1 H1 ⟨us, []⟩ us vs Q (E σ) hr I1.env0 hbs r q) fun z s' hq => ?_)
  rcases z with e | fl
  · exact hx σ pins H1 s1 e s' I1 hq
  · cases fl with
    | ret u => exact I1.after hq
    | next => exact hq.elim
    | brk => exact hq.elim
    | cont => exact hq.elim
end
@[simp] def sCallX (J : GJ) (S : SpecX) (n : Nat) (w : WA) : WS := fun env E => w env fun as e1 => ∃ ds, reals as = some ds ∧ ds.length = n ∧ S J ds (fun _ => E.nx e1) fun c fs => E.rs c fs e1
@[simp] def sRetX (J : GJ) (S : SpecX) (n : Nat) (w : WA) : WS := fun env E => w env fun as e1 => ∃ ds, reals as = some ds ∧ ds.length = n ∧ S J ds (fun d => E.rt d e1) fun c fs => E.rs c fs e1
section
variable {g : Bool} {X : Cx} {J : GJ} {W : WX} {S : SpecX} {n k j : Nat} {x : Str} {p pos cpos : Pos} {e : Expr} {es : List Expr} {w : WA}
theorem callX_of {pr : Hp} {σ : L2.St} {H : Hp} {Q : VK} {q : D → En → Prop} {xq : Str → List (Str × D) → En → Prop} {env : En} {F : Hp} (R : Rep X.K X.mg J pr env σ F H)
    (hw : w env fun as e1 => ∃ ds, reals as = some ds ∧ ds.length = n ∧ S J ds (fun d => q d e1) fun c fs => xq c fs e1)
    (k1 : ∀ d env' z F' H', Rep X.K X.mg J pr env' σ F' H' → Same F F' → Is X.K X.mg F' z d → q d env' → Q z H')
    (k2 : ∀ c C fs d env' F' H', Rep X.K X.mg J pr env' σ F' H' → Same F F' → X.mg c = some (.ref C) → XfAt X.K X.mg F' d fs → xq c fs env' → W (.ref C) d σ H') :
    tAr X.K X.mg J pr w σ H fun vs H1 => spDX X.K X.mg S n vs H1 Q (L2.WE W σ) := by
  refine ⟨env, F, _, R, hw, fun as e1 vs F1 H1 R1 s1 i1 ⟨ds, h1, hn, h2⟩ => ?_⟩
  have ia := i1.real h1
  obtain ⟨pr1, st1, _, out⟩ := R1.st.frame
  refine ⟨by rw [ia.length]; exact hn, J, pr1, F1, ds, _, _, st1, ia, h2, fun d z F' H' t i hq => ?_, fun c C fs d F' H' t hc hx hq => ?_⟩
  · have t' := out F' H' t.st t.ff
    exact k1 d e1 z F' H' (R1.stp t') (s1.trans t.ff) i hq
  · have t' := out F' H' t.st t.ff
    exact k2 c C fs d e1 F' H' (R1.stp t') (s1.trans t.ff) hc hx hq
theorem dx_call (c : CalX g X.prog X.w X.K X.mg X.base k x S n) (hr : Rm g j X.A) (hk : k ≤ j) (hg : Gl X x) (tk : Takes X W) (ha : DA X J (e :: es) w) (hs : swapsWith (.Call (.Name x p) (e :: es) [] cpos) none pos.line X.env = pure false := by rfl)
    (hdb : (x == ("__debug__" : Str)) = false := by decide) (he : starEach (e :: es) X.env = (false, eval e X.env) :: starEach es X.env := by rfl) (hpl : (backTo cpos (starEach es X.env)).any (·.1) = false := by rfl) :
    DX X J W (.Expr (.Call (.Name x p) (e :: es) [] cpos) pos) (sCallX J S n w) := by
  obtain ⟨f, fd, ps, F, hm, hkp, hb⟩ := c.ex
  have hh : ∀ pr, PS X (.Expr (.Call (.Name x p) (e :: es) [] cpos) pos) _ := fun pr => ps_expr (pe_callSG F (hr.mono hk) hg hm hkp hb (fun σ => passAt tk σ) (ha.run pr) hdb he hpl) hs
  refine ⟨⟨fun pins s σ H Z I ⟨pr, env, F, E, R, hw, le, lx⟩ => (hh pr).run pins s σ H Z I ?_⟩⟩
  exact callX_of (q := fun _ e1 => E.nx e1) R hw (fun d e1 z F1 H1 R1 s1 _ hq => le.nx e1 σ F1 H1 R1 s1 hq) fun c C fs d e1 F1 H1 R1 s1 hc hx hq => lx.rs c C fs d e1 σ F1 H1 R1 s1 hc hx hq
theorem dx_retC (c : CalX g X.prog X.w X.K X.mg X.base k x S n) (hr : Rm g j X.A) (hk : k ≤ j) (hg : Gl X x) (tk : Takes X W) (ha : DA X J (e :: es) w)
    (hdb : (x == ("__debug__" : Str)) = false := by decide) (he : starEach (e :: es) X.env = (false, eval e X.env) :: starEach es X.env := by rfl) (hpl : (backTo cpos (starEach es X.env)).any (·.1) = false := by rfl) :
    DX X J W (.Return (some (.Call (.Name x p) (e :: es) [] cpos)) pos) (sRetX J S n w) := by
  obtain ⟨f, fd, ps, F, hm, hkp, hb⟩ := c.ex
  have hh : ∀ pr, PS X (.Return (some (.Call (.Name x p) (e :: es) [] cpos)) pos) _ := fun pr => ps_ret (pe_callSG F (hr.mono hk) hg hm hkp hb (fun σ => passAt tk σ) (ha.run pr) hdb he hpl)
  refine ⟨⟨fun pins s σ H Z I ⟨pr, env, F, E, R, hw, le, lx⟩ => (hh pr).run pins s σ H Z I ?_⟩⟩
  exact callX_of R hw (fun d e1 z F1 H1 R1 s1 i1 hq => le.rt d z e1 σ F1 H1 R1 s1 i1 hq) fun c C fs d e1 F1 H1 R1 s1 hc hx hq => lx.rs c C fs d e1 σ F1 H1 R1 s1 hc hx hq
end
section
variable {g : Bool} {P : Program} {w : World} {K : PySem.W.Frag} {mg : Str → Option Value} {base : Heap}
/-- THE RULE for a def that may raise -/
theorem cal_X {k : Nat} {f : Addr} {x : Str} {st : Stmt} {fd : FuncData} {N ps : List Str} {S : SpecX} {wb : GJ → WS} (Fu : L2.Fun K x x st f fd) (Sc : FnScope N ps (defScope st)) (hm : mg x = some (.ref f)) (hb : Binds K fd ps [])
    (body : ∀ (J : GJ) (cd : Value) (A : Around) (outer : List Env) (s : Shared) (H : Hp) (E : XK), Rm g k (A.deeper (envOfC x (defScope st) s.heap.objs.size f cd)) → DXs (cxOf (L2.CX P w) P w K mg base N x (defScope st) f cd A outer s H E) J (fun cls d _ H => E cls d H) (defBody st) (wb J))
    (ver : ∀ (J : GJ) (ds : List D) (q : D → Prop) (xq : Str → List (Str × D) → Prop), ds.length = ps.length → S J ds q xq → wb J (startE N ds) { nx := fun _ => q .non, rt := fun d _ => q d, rs := fun c fs _ => xq c fs }) : CalX g P w K mg base (k + 1) x S ps.length := by
  refine ⟨f, fd, ps, fnG_of Fu Sc (fun vs H Q E h => h.1) fun cd A outer s H vs Q E hr ⟨hl, J, pr, F, ds, q, xq, st8, ia, hS, k1, k2⟩ => ?_, hm, Fu.kp, hb⟩
  obtain ⟨pr', st', _, out⟩ := st8.frame
  have hv := ver J ds q xq (by rw [← ia.length]; exact hl) hS
  refine ⟨_, (body J cd A outer s H E hr).run, pr', startE N ds, F, _, start_rep st' ia, hv, ⟨fun e σ F' H' R s hq => k1 .non .non F' H' (out F' H' R.st s) .non hq, fun d v e σ F' H' R s i hq => k1 d v F' H' (out F' H' R.st s) i hq, fun _ _ _ _ _ _ h => h.elim, fun _ _ _ _ _ _ h => h.elim⟩,
    ⟨fun c C fs d e σ F' H' R s hc hx hq => k2 c C fs d F' H' (out F' H' R.st s) hc hx hq⟩⟩
end

/-! ### raise -/
theorem nt_xd' {fs : List (Str × V)} : NT (.xd fs) := fun _ z => by cases z
/-- PlayError.__init__(self) -/
def spPE0 (K : PySem.W.Frag) : Sp := fun vs H Q _ => ∃ a C, vs = [.ref a] ∧ OexC K C ∧ H a = some (exo a C none) ∧ Q .non H
theorem un_drop {X : Cx} {pins : List (Addr × Obj)} {σ : L2.St} {H1 : Hp} {hp hp2 h2 : Heap} {g1 g2 : Array GenState} {d1 d2 : Drawn} {t1 t2 : Nat} {os1 os2 : OsState} {a C : Addr} {Q : XK} (T : Raises X (.ref C)) (I1 : L2.Inv X pins σ H1 ⟨hp, g1, d1, t1, os1⟩)
    (ha : hp.objs.size ≤ a) (k : ∀ b o, hp.get? b = some o → hp2.get? b = some o) (un : Un (frs X.stack) [] (upd H1 a (exo a C none)) (upd H1 a (exo a C none)) hp2 h2) (hok : HOk X.prog X.w (upd H1 a (exo a C none)) h2) (ho : os2 = os1) (hb : AllBare g2)
    (q : Q (.ref C) none H1) : MkP X pins σ Q (.ref a) ⟨h2, g2, d2, t2, os2⟩ := by
  obtain ⟨t0, hoe⟩ := exo_at hok upd_same
  have na : H1 a = none := I1.hok.fresh ha
  obtain ⟨G, r1, r2⟩ := restrict h2 fun b => decide (b ≠ a)
  have same : ∀ {b : Addr}, b ≠ a → G.get? b = h2.get? b := fun {b} hb => r1 b (decide_eq_true hb)
  have gone : G.get? a = none := r2 a (by simp)
  have apart : ∀ {b : Addr} {o : Obj}, hp.get? b = some o → b ≠ a := fun {b o} z => Nat.ne_of_lt (Nat.lt_of_lt_of_le (Heap.lt_size z) ha)
  have up : ∀ {b : Addr}, b ≠ a → H1 b = none → upd H1 a (exo a C none) b = none := fun {b} hb n => (upd_ne hb).trans n
  have U : Un (frs X.stack) [] H1 H1 hp G := ⟨fun b o z n hf hx => (same (apart z)).trans (un.keep b o (k b o z) (up (apart z) n) hf hx),
    fun b o z n hf hx => by
      obtain ⟨sl, e⟩ := un.slot b o (k b o z) (up (apart z) n) hf hx
      exact ⟨sl, (same (apart z)).trans e⟩,
    fun b o z n hx => n,
    fun b o z hx => by
      obtain ⟨o', e⟩ := un.there b o (k b o z) hx
      exact ⟨o', (same (apart z)).trans e⟩,
    fun b xs z => z, fun b o v z => z, fun b ps z => ⟨#[], by simpa using z⟩⟩
  have hok3 : HOk X.prog X.w H1 G := fun b o z => by
    have hba : b ≠ a := ne_of_none z na
    have noa : ∀ {c : Addr}, upd H1 a (exo a C none) c = some (.own b) → c ≠ a := fun {c} hc e => by
      subst e
      rw [upd_same] at hc
      cases hc
    refine (hok b o (by rw [upd_ne hba]; exact z)).stay (fun c v hc y => ?_) (fun c hc => by have := hc; rwa [upd_ne (noa hc)] at this) fun c xs hc => ?_
    · rcases hc with rfl | hc
      · exact (same hba).trans y
      · exact (same (noa hc)).trans y
    · have hca : c ≠ a := fun e => by
        subst e
        rw [upd_same] at hc
        cases hc
      rwa [upd_ne hca] at hc
  have J : L2.Inv X pins σ H1 ⟨G, g2, d2, t2, os2⟩ := I1.call' (ch := []) ho U hok3 hb (fun b z => absurd z (by simp))
  refine ⟨a, _, _, ⟨G, g2, d2, t2, os2⟩, H1, .ref C, none, rfl, J, fun b o z => ?_, gone, hoe, ⟨rfl, rfl⟩, rfl, rfl, na, rfl, hb, T, q⟩
  by_cases hba : b = a
  · rw [hba, gone] at z
    cases z
  · exact (same hba).symm.trans z
theorem pmk_ex0 {X : Cx} {x : Str} {C fI : Addr} {k : Nat} {fd : FuncData} {p pos : Pos} (T : OexC X.K C) (iC : PySem.W.findIn X.K (.ref C) "__init__" = some (some (.ref fI))) (tI : PySem.W.typeIn X.K (.ref fI) = some (.type "function"))
    (F1 : FnOk X.prog X.w X.K X.mg X.base L2.CX0 k fI fd ["self"] (spPE0 X.K)) (hr : Room (k + 1) X.A) (hb : Binds X.K fd ["self"] []) (hg : Gl X x) (hm : X.mg x = some (.ref C)) (hdb : (x == ("__debug__" : Str)) = false := by decide) :
    PMk X (.Call (.Name x p) [] [] pos) (fun σ H Q => Q (.ref C) none H) := by
  intro pins s σ H1 Q I1 h
  obtain ⟨nm, qn, N, bs, bm, sn, sub, ab, col, dd, k0, k1, k2, k3, k5, hC, hbm⟩ := T.cls
  refine wpAny_Call_Name_kw (ld_glob I1 hg hm (PySem.W.callWith_K0 I1.kIn T.kC ?_) hdb)
  show wpAny _ _ (call (.ref C) ([] : List Value)) _ _ _
  obtain ⟨hp, g, dr, tk, os⟩ := s
  have hsz : hp.objs.size ≤ hp.objs.size + 1 := Nat.le_succ _
  have kk : ∀ b o, hp.get? b = some o → ((hp.push (PySem.W.kdv_tup [])).push (PySem.HandSPX.excO C hp.objs.size)).get? b = some o := fun b o e => Heap.get?_push_of_some _ (Heap.get?_push_of_some _ e)
  have hget : ((hp.push (PySem.W.kdv_tup [])).push (PySem.HandSPX.excO C hp.objs.size)).get? (hp.objs.size + 1) = some (PySem.HandSPX.excO C hp.objs.size) := by heap_get
  have I2 : L2.Inv X pins σ (upd H1 (hp.objs.size + 1) (exo (hp.objs.size + 1) C none)) ⟨(hp.push (PySem.W.kdv_tup [])).push (PySem.HandSPX.excO C hp.objs.size), g, dr, tk, os⟩ :=
    I1.laid (t' := tk) (a := hp.objs.size + 1) (o := exo (hp.objs.size + 1) C none) (h' := (hp.push (PySem.W.kdv_tup [])).push (PySem.HandSPX.excO C hp.objs.size)) kk hsz (exo_ok hget)
  have hb' := hb ⟨(hp.push (PySem.W.kdv_tup [])).push (PySem.HandSPX.excO C hp.objs.size), g, dr, tk, os⟩ [Value.ref (hp.objs.size + 1)] I2.kIn rfl
  rw [List.append_nil] at hb'
  have hq : spPE0 X.K [.ref (hp.objs.size + 1)] (upd H1 (hp.objs.size + 1) (exo (hp.objs.size + 1) C none)) (fun v H2 => v = .non ∧ H2 = upd H1 (hp.objs.size + 1) (exo (hp.objs.size + 1) C none)) (fun _ _ _ => False) := ⟨_, C, rfl, T, upd_same, rfl, rfl⟩
  refine wpAny_call (PySem.HandSPX.call_own F.excBase_ValueError (fun Y => PySem.HandSPX.refsVE_contains Y bm hbm) (I1.kIn _ _ hC) (PySem.W.looks_findIn I1.kIn iC) (fun self => PySem.W.bind_fn I1.kIn self tI) (Nat.zero_le _)
    (codeAny_mono (F1.run _ X.stack _ _ ⟨[Value.ref (hp.objs.size + 1)], []⟩ [Value.ref (hp.objs.size + 1)] [.ref (hp.objs.size + 1)] _ (fun _ _ _ => False) (hr.make C [] []) (I2.env0.make C [] []) hb' (.cons rfl .nil) hq) fun r s' hq' => ?_))
  cases r with
  | error er => exact hq'.elim
  | ok fl =>
    cases fl with
    | ret u =>
      obtain ⟨v, H2, os2, bare2, un2, hok2, rv, ev, e2⟩ := hq'
      subst ev e2
      obtain ⟨h2, g2, d2, t2, os'⟩ := s'
      exact ⟨rv, un_drop (raises_own T.exC T.tyC) I1 hsz kk un2 hok2 os2 bare2 h⟩
    | next => exact hq'.elim
    | brk => exact hq'.elim
    | cont => exact hq'.elim
end DL

/-! DL19: raise, try. -/
namespace DL
open PySem PySem.Spec PyProof.Rows L2

/-- an own exception whose __init__ is PlayError's (or says no more) -/
structure Exc0 (P : Program) (w : World) (K : PySem.W.Frag) (mg : Str → Option Value) (base : Heap) (k : Nat) (c : Str) : Prop where
  ex : ∃ (C fI : Addr) (fd : FuncData), OexC K C ∧ mg c = some (.ref C) ∧ PySem.W.findIn K (.ref C) "__init__" = some (some (.ref fI)) ∧ PySem.W.typeIn K (.ref fI) = some (.type "function") ∧ FnG false P w K mg base L2.CX0 k fI fd ["self"] (spPE0 K) ∧ Binds K fd ["self"] []
@[simp] def sRaise (c : Str) : WS := fun env E => E.rs c [] env
section
variable {g : Bool} {X : Cx} {J : GJ} {W : WX} {k j : Nat} {c : Str} {p cpos pos : Pos}
theorem dx_raise0 (h : Exc0 X.prog X.w X.K X.mg X.base k c) (hr : Rm g j X.A) (hk : k + 1 ≤ j) (hc : X.calm = true) (tk : Takes X W) (hg : Gl X c) (hdb : (c == ("__debug__" : Str)) = false := by decide) : DX X J W (.Raise (some (.Call (.Name c p) [] [] cpos)) none pos) (sRaise c) := by
  obtain ⟨C, fI, fd, T, hm, iC, tI, F, hb⟩ := h.ex
  refine ⟨PS.imp (ps_raise hc tk (pmk_ex0 T iC tI F.okF (hr.mono hk).rm hb hg hm hdb)) fun Z σ H ⟨pr, env, F, E, R, hw, le, lx⟩ => ?_⟩
  exact lx.rs c C [] none env σ F H R (Same.refl _) hm rfl hw
end
/-- a class of errors with one field: __init__(self, f) bears it -/
def spEx1 (K : PySem.W.Frag) (f : Str) : Sp := fun vs H Q _ => ∃ a C y, vs = [.ref a, y] ∧ OexC K C ∧ PySem.W.findIn K (.ref C) f = some none ∧ H a = some (exo a C none) ∧ ∀ dx, H dx = none → dx ≠ a → Q .non (upd (upd H dx (exd dx [(f, y)])) a (exo a C (some dx)))
structure Exc1 (P : Program) (w : World) (K : PySem.W.Frag) (mg : Str → Option Value) (base : Heap) (k : Nat) (c f : Str) : Prop where
  ex : ∃ (C fI : Addr) (fd : FuncData) (ps : List Str), OexC K C ∧ mg c = some (.ref C) ∧ PySem.W.findIn K (.ref C) "__init__" = some (some (.ref fI)) ∧ PySem.W.typeIn K (.ref fI) = some (.type "function") ∧ PySem.W.findIn K (.ref C) f = some none ∧ FnG false P w K mg base L2.CX0 k fI fd ps (spEx1 K f) ∧ Binds K fd ps []
@[simp] def sRaise1 (c f : Str) (we : WE) : WS := fun env E => we env fun d e1 => E.rs c [(f, d)] e1
section
variable {g : Bool} {X : Cx} {J : GJ} {W : WX} {k j : Nat} {c f : Str} {p cpos pos : Pos} {e : Expr} {we : WE}
theorem dx_raise1 (h : Exc1 X.prog X.w X.K X.mg X.base k c f) (hr : Rm g j X.A) (hk : k + 1 ≤ j) (hc : X.calm = true) (tk : Takes X W) (hg : Gl X c) (he : DE X J e we) (hdb : (c == ("__debug__" : Str)) = false := by decide)
    (hs : starEach [e] X.env = (false, eval e X.env) :: starEach [] X.env := by rfl) (hpl : (backTo cpos (starEach [] X.env)).any (·.1) = false := by rfl) : DX X J W (.Raise (some (.Call (.Name c p) [e] [] cpos)) none pos) (sRaise1 c f we) := by
  obtain ⟨C, fI, fd, ps, T, hm, iC, tI, nf, F, hb⟩ := h.ex
  refine ⟨⟨fun pins s σ H Z I ⟨pr, env, F0, E, R, hw, le, lx⟩ => (ps_raise hc tk (pmk_oex (dvs := []) T iC tI F.okF (hr.mono hk).rm hb .nil L2.pass0 hg hm (pa_cons (he.run pr) pa_nil hs) hdb hs hpl)).run pins s σ H Z I ?_⟩⟩
  refine ⟨env, F0, _, R, hw, fun d e1 y F1 H1 R1 s1 i1 hq => ⟨by simp, fun a na => ⟨a, C, y, rfl, T, nf, upd_same, fun dx ndx ne => ?_⟩⟩⟩
  have n3 : H1 dx = none := by rwa [upd_ne ne] at ndx
  refine ⟨rfl, dx, [(f, y)], upd_same, by rw [upd_ne ne, upd_same], n3, ?_⟩
  have eH : upd (del (upd (upd (upd H1 a (exo a C none)) dx (exd dx [(f, y)])) a (exo a C (some dx))) a) dx (.xd [(f, y)]) = upd H1 dx (.xd [(f, y)]) := by
    funext b
    by_cases h1 : b = dx
    · subst h1
      rw [upd_same, upd_same]
    · rw [upd_ne h1, upd_ne h1]
      by_cases h2 : b = a
      · subst h2
        rw [del_same, na]
      · rw [del_ne h2, upd_ne h2, upd_ne h1, upd_ne h2]
  rw [eH]
  obtain ⟨R2, s2⟩ := R1.laid (o := .xd [(f, y)]) n3 nt_xd'
  exact lx.rs c C [(f, d)] (some dx) e1 σ _ _ R2 (s1.trans s2) hm ⟨_, upd_same, .cons (i1.mono s2) .nil⟩ hq
end

/-! ### try: handlers one after the other, told by their classes' names -/
def hGo (mt : Str → Str → Option Bool) (c : Str) (E : DEnds) (e : En) : List (Str × WS) → Prop → Prop
  | [], r => r
  | (h, ws) :: hs, r => ∃ b, mt c h = some b ∧ if b = true then ws e E else hGo mt c E e hs r
@[simp] def sTry (mt : Str → Str → Option Bool) (wb : WS) (hs : List (Str × WS)) : WS := fun env E => wb env { E with rs := fun c fs e => hGo mt c E e hs (E.rs c fs e) }
/-- what stands of the classes -/
def MtOk (K : PySem.W.Frag) (mg : Str → Option Value) (mt : Str → Str → Option Bool) : Prop := ∀ c h C D b, mt c h = some b → mg c = some (.ref C) → mg h = some (.ref D) → PySem.W.exmOne K (.ref C) (.ref D) = some b
inductive HsOk (X : Cx) (J : GJ) : List ExceptHandler → List (Str × WS) → Prop
  | nil : HsOk X J [] []
  | cons {x : Str} {ws : WS} {b₀ : Stmt} {suite : List Stmt} {np pos' : Pos} {hds : List ExceptHandler} {l : List (Str × WS)} (hg : Gl X x) (hd : (x == ("__debug__" : Str)) = false) (hm : ∃ C, X.mg x = some (.ref C))
      (hsu : ∀ (a : Addr) (pn : List (Addr × Obj)), DSs (X.suite a pn) J (b₀ :: suite) ws) (r : HsOk X J hds l) : HsOk X J (.ExceptHandler (some (.Name x np)) none (b₀ :: suite) pos' :: hds) ((x, ws) :: l)
section
variable {X : Cx} {J : GJ} {W : WX} {body : List Stmt} {h₀ : ExceptHandler} {hds : List ExceptHandler} {l : List (Str × WS)} {pos : Pos} {wb : WS} {mt : Str → Str → Option Bool}
theorem hs_many : ∀ {hds : List ExceptHandler} {l : List (Str × WS)}, HsOk X J hds l → ∃ l2 : List (Value × (Addr → Value → Option Addr → TS)), HdsOk X hds l2 ∧ ∀ (Z : Ends) (c : Str) (C : Addr) (d : Option Addr) (pr F : Hp) (env : En) (σ : L2.St) (H : Hp) (E : DEnds) (r : Prop), MtOk X.K X.mg mt → X.mg c = some (.ref C) → Rep X.K X.mg J pr env σ F H → LeE X.K X.mg J pr F E Z → hGo mt c E env l r → (r → W (.ref C) d σ H) →
    wMany X.K W Z l2 (.ref C) d σ H := by
  intro hds l h
  induction h with
  | nil => exact ⟨[], .nil, fun Z c C d pr F env σ H E r _ _ _ _ hr hw => hw hr⟩
  | @cons x ws b0 suite np pos' hds l hg hd hm hsu r ih =>
    obtain ⟨l2, k1, k2⟩ := ih
    obtain ⟨D, hD⟩ := hm
    refine ⟨(.ref D, fun _ _ _ => tS X.K X.mg J ws) :: l2, .cons ⟨hg, hd, .inl hD⟩ (fun a oe cls d pn _ _ => (hsu a _).run) k1, fun Z c C d pr F env σ H E r' hmt hC R le hgo hw => ?_⟩
    obtain ⟨b, hb, hgo⟩ := hgo
    refine ⟨b, hmt c x C D b hb hC hD, fun e a _ => ?_, fun e => ?_⟩
    · subst e
      exact ⟨pr, env, F, E, R, hgo, le⟩
    · subst e
      exact k2 Z c C d pr F env σ H E r' hmt hC R le hgo hw
theorem dx_try (hs : X.stack = X.env :: X.outer) (hf : X.env.frame = some X.env.locals) (tk : Takes X W) (hmt : MtOk X.K X.mg mt)
    (hb : ∀ (W : WX) (pn : List (Addr × Obj)) (xe : Value → Shared → Prop), Takes (X.tr pn xe) W → PassesOwn (model X.prog X.w) X.A X.env xe → DXs (X.tr pn xe) J W body wb) (hh : HsOk X J (h₀ :: hds) l) : DX X J W (.Try body (h₀ :: hds) [] [] pos) (sTry mt wb l) := by
  obtain ⟨l2, k1, k2⟩ := hs_many (W := W) (mt := mt) hh
  refine ⟨PS.imp (ps_try_many (tb := fun W => tX X.K X.mg J W wb) hs hf tk (fun W pn xe t p => (hb W pn xe t p).run) k1) fun Z σ H ⟨pr, env, F, E, R, hw, le, lx⟩ => ?_⟩
  refine ⟨pr, env, F, _, R, hw, ⟨le.nx, le.rt, le.bk, le.ct⟩, ⟨fun c C fs d e1 σ1 F1 H1 R1 s1 hC hx hq => ?_⟩⟩
  exact k2 Z c C d pr F1 e1 σ1 H1 E _ hmt hC R1 (le.mono s1) hq fun hr => lx.rs c C fs d e1 σ1 F1 H1 R1 s1 hC hx hr
@[simp] def sTry0 (mt : Str → Str → Option Bool) (wb : WS) (hs : List (Str × WS)) : WS := fun env E => wb env { E with rs := fun c _ e => hGo mt c { E with rs := fun _ _ _ => False } e hs False }
theorem ds_try (hs : X.stack = X.env :: X.outer) (hf : X.env.frame = some X.env.locals) (hmt : MtOk X.K X.mg mt)
    (hb : ∀ (W : WX) (pn : List (Addr × Obj)) (xe : Value → Shared → Prop), Takes (X.tr pn xe) W → PassesOwn (model X.prog X.w) X.A X.env xe → DXs (X.tr pn xe) J W body wb) (hh : HsOk X J (h₀ :: hds) l) : DS X J (.Try body (h₀ :: hds) [] [] pos) (sTry0 mt wb l) := by
  refine ⟨PS.imp (dx_try (W := fun _ _ _ _ => False) hs hf (fun _ _ ⟨_, _, _, _, _, _, _, _, _, _, _, _, _, _, _, _, w⟩ => w.elim) hmt hb hh).run fun Z σ H ⟨pr, env, F, E, R, hw, le⟩ => ?_⟩
  exact ⟨pr, env, F, { E with rs := fun _ _ _ => False }, R, hw, ⟨le.nx, le.rt, le.bk, le.ct⟩, ⟨fun _ _ _ _ _ _ _ _ _ _ _ _ z => z.elim⟩⟩
end
end DL

/-! PL0: lemmas for plain proofs: comprehensions and loops over an environment that stays. -/
namespace DL
open PySem PySem.Spec PyProof.Rows L2

def natD (l : List Nat) : List D := l.map fun i => .int (i : Nat)
theorem wipe_set {e : En} {i : Nat} (h : e[i]? = some .no) (s : Sl) : wipeE (e.set i s) [i] = e := by
  simp only [wipeE, List.set_set]
  obtain ⟨hl, h⟩ := List.getElem?_eq_some_iff.mp h
  rw [← h, List.set_getElem_self]
/-- one name; the block leaves its surroundings alone -/
theorem lc_map {α : Type} {i : Nat} {tt : WT} {te : WE} {fin : List D → En → Prop} {e : En} (f y : α → D) (p : α → Bool) (he : e[i]? = some .no) :
    ∀ (xs : List α) (acc : List D), (∀ x ∈ xs, ∀ k : Bool → En → Prop, k (p x) (e.set i (.val (f x))) → tt (e.set i (.val (f x))) k) →
    (∀ x ∈ xs, p x = true → ∀ k : D → En → Prop, k (y x) (e.set i (.val (f x))) → te (e.set i (.val (f x))) k) → acc.length + xs.length ≤ sizeLine → fin (acc ++ (xs.filter p).map y) e → lcGo [i] (gN i) tt te fin (xs.map f) acc e
  | [], acc, _, _, _, hf => by simpa [lcGo] using hf
  | x :: xs, acc, ht, hy, hl, hf => by
    simp only [List.length_cons] at hl
    simp only [List.map_cons, lcGo, gN]
    refine ht x List.mem_cons_self _ ?_
    cases hp : p x with
    | true =>
      rw [if_pos rfl]
      refine hy x List.mem_cons_self hp _ ⟨by omega, ?_⟩
      rw [wipe_set he]
      refine lc_map f y p he xs _ (fun z hz => ht z (List.mem_cons_of_mem _ hz)) (fun z hz => hy z (List.mem_cons_of_mem _ hz)) (by simp; omega) ?_
      simpa [List.filter_cons, hp] using hf
    | false =>
      rw [if_neg (by simp)]
      rw [wipe_set he]
      refine lc_map f y p he xs _ (fun z hz => ht z (List.mem_cons_of_mem _ hz)) (fun z hz => hy z (List.mem_cons_of_mem _ hz)) (by omega) ?_
      simpa [List.filter_cons, hp] using hf
/-- the same without a condition -/
theorem lc_map1 {α : Type} {i : Nat} {te : WE} {fin : List D → En → Prop} {e : En} (f y : α → D) (he : e[i]? = some .no) (xs : List α) 
    (hy : ∀ x ∈ xs, ∀ k : D → En → Prop, k (y x) (e.set i (.val (f x))) → te (e.set i (.val (f x))) k) (hl : xs.length ≤ sizeLine) (hf : fin (xs.map y) e) : lcGo [i] (gN i) wYes te fin (xs.map f) [] e :=
  lc_map f y (fun _ => true) he xs [] (fun x _ k h => h) (fun x hx _ => hy x hx) (by simpa using hl) (by rw [List.filter_eq_self.mpr (by simp)]; simpa using hf)
theorem rgD_nat (n : Nat) : rgD 0 1 n = (List.range n).map fun i => D.int (i : Nat) := by
  unfold rgD
  exact List.map_congr_left fun i _ => by simp
theorem natD_length (l : List Nat) : (natD l).length = l.length := by simp [natD]
theorem small_sz {n : Nat} (h : n ≤ 16777216) : n ≤ sizeLine := by rw [sizeLine_eq]; exact h
theorem okEA_natD (k : Nat) (l : List Nat) : okEA k (natD l) = true := by
  induction l with
  | nil => rfl
  | cons x xs ih => simpa [natD, okEA, okE] using ih
theorem inD_natD (x : Nat) (l : List Nat) : inD (.int (x : Nat)) (natD l) = l.contains x := by
  induction l with
  | nil => rfl
  | cons y ys ih =>
    have e : inD (.int (x : Nat)) (natD (y :: ys)) = (eqD (.int (y : Nat)) (.int (x : Nat)) || inD (.int (x : Nat)) (natD ys)) := rfl
    rw [e, ih, List.contains_cons]
    congr 1
    simp only [eqD]
    rw [Bool.eq_iff_iff, beq_iff_eq, beq_iff_eq]
    omega
theorem atI_map {α : Type} {f : α → D} {xs : List α} {i : Nat} {x : α} (h : xs[i]? = some x) : atI (xs.map f) (i : Nat) = some (f x) := atI_nat (by simp [h])
theorem atI_range {f : Nat → D} {n i : Nat} (h : i < n) : atI ((List.range n).map f) (i : Nat) = some (f i) := atI_map (by rw [List.getElem?_range h])
/-! two clauses -/
theorem lc2_in {β : Type} {vs : List Nat} {j : Nat} {tt1 : WT} {te : WE} {nx : List D → En → Prop} {e : En} (h y : β → D) (p : β → Bool) (he : e[j]? = some .no) :
    ∀ (xs : List β) (acc : List D), (∀ x ∈ xs, ∀ k : Bool → En → Prop, k (p x) (e.set j (.val (h x))) → tt1 (e.set j (.val (h x))) k) →
    (∀ x ∈ xs, p x = true → ∀ k : D → En → Prop, k (y x) (e.set j (.val (h x))) → te (e.set j (.val (h x))) k) → acc.length + xs.length ≤ sizeLine → nx (acc ++ (xs.filter p).map y) e → lc2In vs [j] (gN j) tt1 te nx (xs.map h) acc e
  | [], acc, _, _, _, hf => by simpa [lc2In] using hf
  | x :: xs, acc, ht, hy, hl, hf => by
    simp only [List.length_cons] at hl
    simp only [List.map_cons, lc2In, gN]
    refine ht x List.mem_cons_self _ ?_
    cases hp : p x with
    | true =>
      rw [if_pos rfl]
      refine hy x List.mem_cons_self hp _ ⟨by omega, ?_⟩
      rw [wipe_set he]
      refine lc2_in h y p he xs _ (fun z hz => ht z (List.mem_cons_of_mem _ hz)) (fun z hz => hy z (List.mem_cons_of_mem _ hz)) (by simp; omega) ?_
      simpa [List.filter_cons, hp] using hf
    | false =>
      rw [if_neg (by simp)]
      rw [wipe_set he]
      refine lc2_in h y p he xs _ (fun z hz => ht z (List.mem_cons_of_mem _ hz)) (fun z hz => hy z (List.mem_cons_of_mem _ hz)) (by omega) ?_
      simpa [List.filter_cons, hp] using hf
theorem wipe_no {e : En} {j : Nat} (h : e[j]? = some .no) : wipeE e [j] = e := by
  simp only [wipeE]
  obtain ⟨hl, h⟩ := List.getElem?_eq_some_iff.mp h
  rw [← h, List.set_getElem_self]
theorem lc2_map {α β : Type} {i j : Nat} {wi1 : WI} {tt1 : WT} {te : WE} {fin : List D → En → Prop} {e : En} (hij : i ≠ j) (f : α → D) (ys : α → List β) (h : α → β → D) (p : α → β → Bool) (y : α → β → D) (hi : e[i]? = some .no) (hj : e[j]? = some .no) :
    ∀ (xs : List α) (acc : List D), (∀ x ∈ xs, ∀ k : List D → En → Prop, k ((ys x).map (h x)) (e.set i (.val (f x))) → wi1 (e.set i (.val (f x))) k) →
    (∀ x ∈ xs, ∀ b ∈ ys x, ∀ k : Bool → En → Prop, k (p x b) ((e.set i (.val (f x))).set j (.val (h x b))) → tt1 ((e.set i (.val (f x))).set j (.val (h x b))) k) →
    (∀ x ∈ xs, ∀ b ∈ ys x, p x b = true → ∀ k : D → En → Prop, k (y x b) ((e.set i (.val (f x))).set j (.val (h x b))) → te ((e.set i (.val (f x))).set j (.val (h x b))) k) →
    acc.length + (xs.map fun x => (ys x).length).sum ≤ sizeLine → fin (acc ++ xs.flatMap fun x => ((ys x).filter (p x)).map (y x)) e → lc2Go [i, j] [j] (gN i) wYes wi1 (gN j) tt1 te fin (xs.map f) acc e
  | [], acc, _, _, _, _, hf => by simpa [lc2Go] using hf
  | x :: xs, acc, hw, ht, hy, hl, hf => by
    simp only [List.map_cons, List.sum_cons] at hl
    have hj' : (e.set i (.val (f x)))[j]? = some .no := by rw [List.getElem?_set_ne hij, hj]
    simp only [List.map_cons, lc2Go, gN, wYes, if_true]
    refine hw x List.mem_cons_self _ ?_
    rw [wipe_no hj']
    have hfl : (((ys x).filter (p x)).map (y x)).length ≤ (ys x).length := by
      rw [List.length_map]
      exact List.length_filter_le _ _
    refine lc2_in (h x) (y x) (p x) hj' (ys x) acc (ht x List.mem_cons_self) (hy x List.mem_cons_self) (by omega) ?_
    have e2 : wipeE (e.set i (.val (f x))) [i, j] = e := by
      show (wipeE (e.set i (.val (f x))) [j]).set i .no = e
      rw [wipe_no hj', List.set_set]
      exact wipe_no hi
    rw [e2]
    refine lc2_map hij f ys h p y hi hj xs _ (fun z hz => hw z (List.mem_cons_of_mem _ hz)) (fun z hz => ht z (List.mem_cons_of_mem _ hz)) (fun z hz => hy z (List.mem_cons_of_mem _ hz)) (by rw [List.length_append]; omega) ?_
    simpa using hf
theorem seq_step {w u : WS} {env : En} (env' : En) {E : DEnds} (h : ∀ E' : DEnds, E'.rt = E.rt → E'.bk = E.bk → E'.ct = E.ct → E'.nx env' → w env E') (h' : u env' E) : sSeq w u env E := h { E with nx := fun e => u e E } rfl rfl rfl h'
theorem seq_stepP {w u : WS} {env : En} (P : En → Prop) {E : DEnds} (h : ∀ E' : DEnds, E'.rt = E.rt → E'.bk = E.bk → E'.ct = E.ct → (∀ e, P e → E'.nx e) → w env E') (h' : ∀ e, P e → u e E) : sSeq w u env E := h { E with nx := fun e => u e E } rfl rfl rfl h'
theorem filter_yes {α : Type} (l : List α) : l.filter (fun _ => true) = l := List.filter_eq_self.mpr (by simp)
theorem small_int {n : Nat} (h : n ≤ 100000) : -(2 ^ 62) ≤ (n : Int) ∧ (n : Int) < 2 ^ 62 := by omega
/-! loops -/
theorem for_ind {α : Type} {g : WG} {body : WS} {E : DEnds} (f : α → D) (P : List α → En → Prop) (hn : ∀ e, P [] e → E.nx e)
    (hc : ∀ x xs e, P (x :: xs) e → ∀ R : En → Prop, (∀ e', P xs e' → R e') → g (f x) e fun e2 => body e2 { E with nx := R, ct := R, bk := E.nx }) : ∀ (xs : List α) (e : En), P xs e → forGo g body E (xs.map f) e
  | [], e, h => hn e h
  | x :: xs, e, h => hc x xs e h _ fun e' h' => for_ind f P hn hc xs e' h'
abbrev EndQ (q : D → Prop) : DEnds := { nx := fun _ => q .non, rt := fun d _ => q d }
def tuI (ns : List Int) : D := .tup (ns.map D.int)
def liI (ns : List Int) : D := .lst (ns.map D.int)
/-! ### comprehensions with any target -/
theorem lc_gen {α : Type} {vs : List Nat} {g : WG} {tt : WT} {te : WE} {fin : List D → En → Prop} {e : En} (f y : α → D) (p : α → Bool) (e' : α → En) (hw : ∀ x, wipeE (e' x) vs = e) :
    ∀ (xs : List α) (acc : List D), (∀ x ∈ xs, ∀ k : En → Prop, k (e' x) → g (f x) e k) → (∀ x ∈ xs, ∀ k : Bool → En → Prop, k (p x) (e' x) → tt (e' x) k) →
    (∀ x ∈ xs, p x = true → ∀ k : D → En → Prop, k (y x) (e' x) → te (e' x) k) → acc.length + xs.length ≤ sizeLine → fin (acc ++ (xs.filter p).map y) e → lcGo vs g tt te fin (xs.map f) acc e
  | [], acc, _, _, _, _, hf => by simpa [lcGo] using hf
  | x :: xs, acc, hg, ht, hy, hl, hf => by
    simp only [List.length_cons] at hl
    simp only [List.map_cons, lcGo]
    refine hg x List.mem_cons_self _ (ht x List.mem_cons_self _ ?_)
    cases hp : p x with
    | true =>
      rw [if_pos rfl]
      refine hy x List.mem_cons_self hp _ ⟨by omega, ?_⟩
      rw [hw]
      refine lc_gen f y p e' hw xs _ (fun z hz => hg z (List.mem_cons_of_mem _ hz)) (fun z hz => ht z (List.mem_cons_of_mem _ hz)) (fun z hz => hy z (List.mem_cons_of_mem _ hz)) (by simp; omega) ?_
      simpa [List.filter_cons, hp] using hf
    | false =>
      rw [if_neg (by simp)]
      rw [hw]
      refine lc_gen f y p e' hw xs _ (fun z hz => hg z (List.mem_cons_of_mem _ hz)) (fun z hz => ht z (List.mem_cons_of_mem _ hz)) (fun z hz => hy z (List.mem_cons_of_mem _ hz)) (by omega) ?_
      simpa [List.filter_cons, hp] using hf
theorem enD_from (g : Int → D) : ∀ (vs : List Int) (j : Nat), enD j (vs.map g) = (List.range vs.length).map fun i => .tup [.int ((j + i : Nat) : Int), g (vs.getD i 0)] := by
  intro vs j
  refine List.ext_getElem? fun i => ?_
  rw [enD_get, List.getElem?_map, List.getElem?_map]
  by_cases h : i < vs.length
  · rw [List.getElem?_range h, List.getElem?_eq_getElem h]
    simp [List.getD_eq_getElem?_getD, List.getElem?_eq_getElem h]
  · rw [List.getElem?_eq_none (by omega), List.getElem?_eq_none (by simp; omega)]
    rfl
theorem enD_ints (vs : List Int) : enD 0 (vs.map D.int) = (List.range vs.length).map fun i => .tup [.int (i : Nat), .int (vs.getD i 0)] := by
  rw [enD_from]
  exact List.map_congr_left fun i _ => by rw [Nat.zero_add]
theorem zipD_ints : ∀ vs ts : List Int, zipD (vs.map D.int) (ts.map D.int) = (vs.zip ts).map pairD
  | [], _ => rfl
  | _ :: _, [] => rfl
  | v :: vs, t :: ts => by
    simp [zipD_ints vs ts]
theorem lc_draw {α : Type} {i : Nat} {te : WE} {fin : List D → En → Prop} {e : En} (f : α → D) (P : Int → Prop) (he : e[i]? = some .no) :
    ∀ (xs : List α) (as : List Int), (∀ x ∈ xs, ∀ k : D → En → Prop, (∀ r, P r → k (.int r) (e.set i (.val (f x)))) → te (e.set i (.val (f x))) k) → as.length + xs.length ≤ sizeLine →
    (∀ ns : List Int, ns.length = xs.length → (∀ n ∈ ns, P n) → fin ((as ++ ns).map D.int) e) → lcGo [i] (gN i) wYes te fin (xs.map f) (as.map D.int) e
  | [], as, _, _, hf => by simpa [lcGo] using hf [] rfl (by simp)
  | x :: xs, as, hy, hl, hf => by
    simp only [List.length_cons] at hl
    simp only [List.map_cons, lcGo, gN, wYes, if_true]
    refine hy x List.mem_cons_self _ fun r hr => ⟨by rw [List.length_map]; omega, ?_⟩
    rw [wipe_set he]
    have e1 : as.map D.int ++ [.int r] = (as ++ [r]).map D.int := by simp
    rw [e1]
    refine lc_draw f P he xs (as ++ [r]) (fun z hz => hy z (List.mem_cons_of_mem _ hz)) (by simp; omega) fun ns h1 h2 => ?_
    have := hf (r :: ns) (by simp [h1]) (fun n hn => by
      rcases List.mem_cons.mp hn with h | h
      · rw [h]
        exact hr
      · exact h2 n h)
    simpa using this
end DL

/-! HD0: the law's source of numbers. -/
namespace DL
open PySem PySem.Spec PyProof.Rows L2
/-- the hand at a; its cells never change -/
def HandD (ns : List Int) (i d s k : Int) : List D := [.lst (ns.map D.int), .int i, .int d, .int s, .int k]
structure HandOk (ns : List Int) (i d s k : Int) : Prop where
  len : ns.length ≤ 63
  cell : ∀ n ∈ ns, 0 ≤ n
  i0 : 0 ≤ i
  d0 : 0 ≤ d
structure HandAt (a : Addr) (F H : Hp) : Prop where
  ex : ∃ (c : Addr) (ns : List Int) (i d s k : Int), F c = some (.lst (ns.map V.int)) ∧ H a = some (.lst [.ref c, .int i, .int d, .int s, .int k]) ∧ HandOk ns i d s k
/-- J's changing part is a hand at a, beside T -/
structure IsHand (J : GJ) (a : Addr) : Prop where
  ex : ∃ (T : Addr → Prop) (I : Hp → Prop), J.mt = (fun b => b = a ∨ T b) ∧ ¬ T a ∧ (∀ F H, J.inv F H ↔ HandAt a F H ∧ I H) ∧ (∀ H H', (∀ b, T b → H' b = H b) → (∀ b φ, H b = some (.ext φ) → H' b = some (.ext φ)) → I H → I H') ∧ ∀ H b, I H → T b → H b ≠ none
abbrev S_draw (M : Int) : Spec := fun J ds q => ∃ a m, ds = [.tk a, .int m] ∧ IsHand J a ∧ 0 < m ∧ m ≤ M ∧ ∀ r : Int, 0 ≤ r → r < m → q (.int r)
abbrev hndE (a : Addr) (ns : List Int) (i d s k m : Int) (x y z : Sl) : En := [.lat a (HandD ns i d s k), .val (.int m), x, y, z]
theorem hx0 (ns : List Int) (i d s k : Int) : atI (HandD ns i d s k) 0 = some (.lst (ns.map D.int)) := atI_nat (j := 0) rfl
theorem hx1 (ns : List Int) (i d s k : Int) : atI (HandD ns i d s k) 1 = some (.int i) := atI_nat (j := 1) rfl
theorem hx2 (ns : List Int) (i d s k : Int) : atI (HandD ns i d s k) 2 = some (.int d) := atI_nat (j := 2) rfl
theorem hx3 (ns : List Int) (i d s k : Int) : atI (HandD ns i d s k) 3 = some (.int s) := atI_nat (j := 3) rfl
theorem hx4 (ns : List Int) (i d s k : Int) : atI (HandD ns i d s k) 4 = some (.int k) := atI_nat (j := 4) rfl
theorem hs1 (ns : List Int) (i d s k : Int) : ixN (HandD ns i d s k).length 1 = some 1 := rfl
theorem hs2 (ns : List Int) (i d s k : Int) : ixN (HandD ns i d s k).length 2 = some 2 := rfl
theorem hs3 (ns : List Int) (i d s k : Int) : ixN (HandD ns i d s k).length 3 = some 3 := rfl
theorem hs4 (ns : List Int) (i d s k : Int) : ixN (HandD ns i d s k).length 4 = some 4 := rfl
/-- what is left of J while the hand is in hand -/
def restJ (T : Addr → Prop) (I : Hp → Prop) (h1 : ∀ H H', (∀ b, T b → H' b = H b) → (∀ b φ, H b = some (.ext φ) → H' b = some (.ext φ)) → I H → I H') (h2 : ∀ H b, I H → T b → H b ≠ none) : GJ :=
  ⟨T, fun _ H => I H, fun _ H b i t => h2 H b i t, fun _ H _ H' i _ e x => h1 H H' e x i⟩
def cellP (p : Nat) (z : Int) : Int := (if z < 0 then -z else z) % 10 ^ p
/-- tables that nobody writes at -/
def tabJ (T : List Addr) : GJ := ⟨fun b => b ∈ T, fun _ H => ∀ b ∈ T, H b = some (.tbl #[]), fun _ H b i m => by rw [i b m]; simp, fun _ H _ H' i _ e _ b m => (e b m).trans (i b m)⟩
def handJ (b : Addr) : GJ where
  mt := fun x => x = b ∨ False
  inv := fun F H => HandAt b F H ∧ True
  at_ := fun F H x i m => by
    rcases m with rfl | m
    · obtain ⟨c, ns, i, d, s, k, _, h2, _⟩ := i.1.ex
      rw [h2]
      simp
    · exact m.elim
  stay := fun F H F' H' i e m x => by
    obtain ⟨c, ns, j, d, s, k, h1, h2, h3⟩ := i.1.ex
    exact ⟨⟨c, ns, j, d, s, k, e _ _ h1, (m b (.inl rfl)).trans h2, h3⟩, trivial⟩
theorem handJ_is (b : Addr) : IsHand (handJ b) b := ⟨fun _ => False, fun _ => True, rfl, id, fun _ _ => Iff.rfl, fun _ _ _ _ _ => trivial, fun _ _ _ h => h.elim⟩
/-- the abstract heap at the start: the script if it is no part of the text -/
def topH (K : PySem.W.Frag) (a : Addr) (os : Obj) (xs : List V) : Hp := fun b => if b = a ∧ K.lookup a = none then some (.frz os (.lst xs)) else none
section
variable {K : PySem.W.Frag} {a b : Addr} {os : Obj} {xs : List V}
theorem topH_a (e : K.lookup a = none) : topH K a os xs a = some (.frz os (.lst xs)) := if_pos ⟨rfl, e⟩
theorem topH_off (h2 : b ≠ a ∨ K.lookup a ≠ none) : topH K a os xs b = none := if_neg fun z => h2.elim (fun h => h z.1) fun h => h z.2
theorem topH_cases {u : HO} (e : topH K a os xs b = some u) : b = a ∧ K.lookup a = none ∧ u = .frz os (.lst xs) := by
  unfold topH at e
  split at e
  · rename_i h2
    exact ⟨h2.1, h2.2, (Option.some.inj e).symm⟩
  · cases e
end
theorem law_top {P : Program} {w : World} {K : PySem.W.Frag} {mg mb : Str → Option Value} {k : Nat} {fa a : Addr} {fd : FuncData} {x : Str} {sp : Sp} {S : Shared} {vs : List Value} {ns : List Int} (inK : K.In S.heap) (nsG : S.heap.Ns mainGlobals mg) (nsB : S.heap.Ns builtinsNs mb)
    (boots : ∀ y : Str, y ≠ "__name__" → mb y = bootBuiltins y) (free : S.heap.NoLimit) (gen0 : S.gens = #[])
    (scr : S.heap.get? a = some { cls := .type "list", data := .seq vs.toArray }) (intz : IntsAre vs ns) (short : ns.length ≤ sizeLine) (room : Rm true k callerA)
    (F : ∀ base : Heap, K.In base → base.Ns mainGlobals mg → FnG true P w K mg base L2.CX0 k fa fd [x] sp) (bnd : ∀ (s : Shared) (u : Value), BindsTo s fd ⟨[u], []⟩ [(x, u)])
    (prom : ∀ H : Hp, SqL K H a (ns.map V.int) → sp [.ref a] H (fun v _ => v = .bl true) fun _ _ _ => False) :
    codeAny (model P w) callerA (.call (.ref fa) ⟨[.ref a], []⟩) (fun r s' => r = .ok (.ret (.bool true)) ∧ OldK S.heap s'.heap ∧ s'.os = S.os ∧ AllBare s'.gens) S := by
  have rel : Vals (ns.map V.int) vs := vals_ints intz
  obtain ⟨H, hH⟩ : ∃ H, H = topH K a { cls := .type "list", data := .seq vs.toArray } (ns.map V.int) := ⟨_, rfl⟩
  have off : ∀ {b : Addr} {o : Obj}, S.heap.get? b = some o → (∀ z n, o.data ≠ .seq z n) → H b = none := fun {b o} e n1 => by
    rw [hH]
    refine topH_off (.inl fun z => ?_)
    subst z
    rw [scr] at e
    cases e
    exact n1 _ _ rfl
  have hid : ∀ {b : Addr} {o : Obj}, S.heap.get? b = some o → H b = none → (hidT S.heap H).get? b = some o := fun e n => hidT_get e n
  have hidNs : ∀ {b : Addr} {m : Str → Option Value}, S.heap.Ns b m → (hidT S.heap H).Ns b m := fun {b m} h => by
    obtain ⟨o, es, ep, e, d, r⟩ := h
    exact ⟨o, es, ep, hid e (off e (fun z n q => by rw [d] at q; cases q)), d, r⟩
  have ok : HOk P w H S.heap := fun b u e => by
    rw [hH] at e
    obtain ⟨rfl, _, rfl⟩ := topH_cases e
    exact ⟨scr, by rw [List.length_map]; exact short, vs, _, rel, scr⟩
  have inB : K.In (hidT S.heap H) := fun b o e => hid (inK b o e) (by
    rw [hH]
    refine topH_off ?_
    by_cases z : b = a
    · subst z
      exact .inr (by rw [e]; simp)
    · exact .inl z)
  have sq : SqL K H a (ns.map V.int) := by
    cases hk : K.lookup a with
    | none =>
      exact .inl (.inr ⟨{ cls := .type "list", data := .seq vs.toArray }, by rw [hH]; exact topH_a hk⟩)
    | some o =>
      have e := inK a o hk
      rw [scr] at e
      cases e
      refine .inr ⟨_, vs.toArray, _, hk, rfl, rfl, rfl, ?_, by simpa using rel⟩
      rw [List.size_toArray, intz.length]
      exact short
  have env : Env0 P w K mg (hidT S.heap H) callerA [] S H := by
    obtain ⟨mc, l1, l2⟩ := free
    exact ⟨rfl, ⟨inB, hidNs nsG, ⟨mb, hidNs nsB, boots⟩, ⟨mc, hidNs l1, l2⟩⟩, fun b o e => of_hidT e, Nat.le_of_eq (hidT_size _ _), trivial, fun b z => (by cases z), ok, .of_eq gen0⟩
  have run := (F _ inB (hidNs nsG)).run callerA [] S H ⟨[.ref a], []⟩ [.ref a] [.ref a] _ _ room env (bnd S (.ref a)) (.cons rfl .nil) (prom H sq)
  refine codeAny_mono run fun r s' h => ?_
  match r, h with
  | .error e, h => exact (show False from h).elim
  | .ok .next, h => exact (show False from h).elim
  | .ok .brk, h => exact (show False from h).elim
  | .ok .cont, h => exact (show False from h).elim
  | .ok (.ret u), h =>
    obtain ⟨v, H', eos, ebare, un, ok', ru, ev⟩ := h
    have ev : v = .bl true := ev
    subst ev
    obtain rfl : u = Value.bool true := ru
    have same : ∀ b o, S.heap.get? b = some o → s'.heap.get? b = some o := fun b o e => by
      cases q : H b with
      | none => exact un.keep b o e q (fun z => by cases z) (fun z => by cases z)
      | some u =>
        have q2 := q
        rw [hH] at q2
        obtain ⟨rfl, _, rfl⟩ := topH_cases q2
        have z := un.frzs b _ _ q
        have f1 := (ok b _ q).1
        have f2 := (ok' b _ z).1
        rw [e] at f1
        cases f1
        exact f2
    exact ⟨rfl, ⟨fun b o e => .inl (same b o e), fun b o e => ⟨o, same b o e⟩⟩, eos, ebare⟩
end DL

/-! PL1: plain lemmas: lots (tuples of numbers), tests of members, choices. -/
namespace DL
open PySem PySem.Spec PyProof.Rows L2
def lotD (l : List Nat) : D := .tup (natD l)
section
variable {P : Bool → Prop} {b : Bool} {p : Prop} [Decidable p]
theorem or_not (h : P (!b)) : b = true ∧ P false ∨ b = false ∧ P true := by cases b <;> simp_all
theorem or_yes (h : P b) : b = false ∧ P false ∨ b = true ∧ P true := by cases b <;> simp_all
theorem or_dec (h : P (decide p)) : ¬ p ∧ P false ∨ p ∧ P true := by by_cases hp : p <;> simp_all
theorem or_dec' (h : P (!decide p)) : p ∧ P false ∨ ¬ p ∧ P true := by by_cases hp : p <;> simp_all
end
theorem tt_notIn {e : En} {i j x : Nat} {l : List Nat} {k : Bool → En → Prop} (h1 : e[j]? = some (.val (.int (x : Nat)))) (h2 : e[i]? = some (.val (lotD l))) (hk : k (!l.contains x) e) : wTB (w2 oNotIn (wB j) (wB i)) e k := by
  simp [h1, h2, lotD, inD_natD, okEA_natD, -List.contains_eq_mem]
  exact or_not (P := fun b => k b e) hk
theorem tt_in {e : En} {i j x : Nat} {l : List Nat} {k : Bool → En → Prop} (h1 : e[j]? = some (.val (.int (x : Nat)))) (h2 : e[i]? = some (.val (lotD l))) (hk : k (l.contains x) e) : wTB (w2 oIn (wB j) (wB i)) e k := by
  simp [h1, h2, lotD, inD_natD, okEA_natD, -List.contains_eq_mem]
  exact or_yes (P := fun b => k b e) hk
theorem ww_in {e : En} {i j x : Nat} {l : List Nat} {k : D → En → Prop} (h1 : e[j]? = some (.val (.int (x : Nat)))) (h2 : e[i]? = some (.val (lotD l))) (hk : k (.bl (l.contains x)) e) : (w2 oIn (wB j) (wB i)) e k := by
  simp [h1, h2, lotD, inD_natD, okEA_natD, -List.contains_eq_mem]
  exact hk
theorem ww_snoc {e : En} {i j x : Nat} {l : List Nat} {k : D → En → Prop} (h1 : e[j]? = some (.val (.int (x : Nat)))) (h2 : e[i]? = some (.val (lotD l))) (hl : l.length ≤ 1000) (hk : k (lotD (l ++ [x])) e) : (w2 oAdd (wB i) (wOf (wTup (wCons (wOf (wVar j)) wNil)))) e k := by
  have e1 : natD l ++ [.int (x : Nat)] = natD (l ++ [x]) := by simp [natD]
  simp [h1, h2, lotD, e1]
  exact ⟨small_sz (by rw [natD_length]; omega), hk⟩
theorem sum_le24 {α : Type} : ∀ (l : List α) (f : α → Nat) (B : Nat), (∀ x ∈ l, f x ≤ B) → (l.map f).sum ≤ l.length * B
  | [], _, _, _ => by simp
  | x :: l, f, B, h => by
    have h1 := h x List.mem_cons_self
    have h2 := sum_le24 l f B fun y hy => h y (List.mem_cons_of_mem _ hy)
    simp only [List.map_cons, List.sum_cons, List.length_cons, Nat.add_mul]
    omega
theorem natD_app (l : List Nat) (i : Nat) : natD l ++ [.int (i : Nat)] = natD (l ++ [i]) := by simp [natD]
theorem cutD_lo (xs : List D) (k : Nat) (h : k ≤ xs.length) : cutD xs none (some (k : Int)) = xs.take k := by
  unfold cutD
  rw [HT.sIx_nat, HT.sIx_none, Nat.min_eq_left h]
  simp
theorem cutD_up (xs : List D) (k : Nat) (h : k ≤ xs.length) : cutD xs (some (k : Int)) none = xs.drop k := by
  unfold cutD
  rw [HT.sIx_nat, HT.sIx_none, Nat.min_eq_left h]
  exact List.take_of_length_le (by rw [List.length_drop]; omega)
theorem natD_take (l : List Nat) (k : Nat) : (natD l).take k = natD (l.take k) := by simp [natD, List.map_take]
theorem at_ints {vs : List Int} {i : Nat} (h : i < vs.length) : atI (vs.map D.int) (i : Nat) = some (.int (vs.getD i 0)) := atI_nat (by simp [List.getD_eq_getElem?_getD, List.getElem?_eq_getElem h])
theorem okEA_ints (k : Nat) (l : List Int) : okEA k (l.map D.int) = true := by
  induction l with
  | nil => rfl
  | cons x xs ih => simpa [okEA, okE] using ih
theorem eqDA_self_ints (l : List Int) : eqDA (l.map D.int) (l.map D.int) = true := by
  induction l with
  | nil => rfl
  | cons x xs ih => simpa [eqDA, eqD] using ih
end DL

/-! PL2: comprehensions as wholes. -/
namespace DL
open PySem PySem.Spec PyProof.Rows L2
theorem back_no {e : En} {i : Nat} (h : e[i]? = some .no) : backE e e [i] = e := by
  show e.set i (e.getD i .no) = e
  obtain ⟨hl, h⟩ := List.getElem?_eq_some_iff.mp h
  rw [List.getD_eq_getElem?_getD, List.getElem?_eq_getElem hl]
  exact List.set_getElem_self hl
theorem free_no {e : En} {i : Nat} (h : e[i]? = some .no) : freeE e [i] := by
  intro v hv
  rw [List.mem_singleton.mp hv, List.getD_eq_getElem?_getD, h]
  rfl
theorem wLC_filter {α : Type} {wi : WI} {tt : WT} {te : WE} {e : En} {i : Nat} {q : D → En → Prop} (f : α → D) (y : α → D) (p : α → Bool) (xs : List α) (he : e[i]? = some .no) (hwi : ∀ r : List D → En → Prop, r (xs.map f) e → wi e r)
    (ht : ∀ x ∈ xs, ∀ k : Bool → En → Prop, k (p x) (e.set i (.val (f x))) → tt (e.set i (.val (f x))) k) (hy : ∀ x ∈ xs, p x = true → ∀ k : D → En → Prop, k (y x) (e.set i (.val (f x))) → te (e.set i (.val (f x))) k) (hl : xs.length ≤ 16777216)
    (hq : q (.lst ((xs.filter p).map y)) e) : wLC [i] wi (gN i) tt te e q := by
  refine hwi _ ⟨free_no he, ?_⟩
  rw [wipe_no he]
  refine lc_map f y p he xs [] ht hy (by simpa using small_sz hl) ?_
  rw [back_no he]
  exact hq
theorem wLC_map {α : Type} {wi : WI} {te : WE} {e : En} {i : Nat} {q : D → En → Prop} (f : α → D) (y : α → D) (xs : List α) (he : e[i]? = some .no) (hwi : ∀ r : List D → En → Prop, r (xs.map f) e → wi e r)
    (hy : ∀ x ∈ xs, ∀ k : D → En → Prop, k (y x) (e.set i (.val (f x))) → te (e.set i (.val (f x))) k) (hl : xs.length ≤ 16777216) (hq : q (.lst (xs.map y)) e) : wLC [i] wi (gN i) wYes te e q :=
  wLC_filter f y (fun _ => true) xs he hwi (fun _ _ k h => h) (fun x hx _ => hy x hx) hl (by rw [filter_yes]; exact hq)
/-- the same where the name holds something already -/
theorem wLC_filterV {α : Type} {wi : WI} {tt : WT} {te : WE} {e : En} {i : Nat} {s : Sl} {q : D → En → Prop} (f : α → D) (y : α → D) (p : α → Bool) (xs : List α) (he : e[i]? = some s) (ho : s.isOwn = false) (hwi : ∀ r : List D → En → Prop, r (xs.map f) e → wi e r)
    (ht : ∀ x ∈ xs, ∀ k : Bool → En → Prop, k (p x) (e.set i (.val (f x))) → tt (e.set i (.val (f x))) k) (hy : ∀ x ∈ xs, p x = true → ∀ k : D → En → Prop, k (y x) (e.set i (.val (f x))) → te (e.set i (.val (f x))) k) (hl : xs.length ≤ 16777216)
    (hq : q (.lst ((xs.filter p).map y)) e) : wLC [i] wi (gN i) tt te e q := by
  obtain ⟨hi, hs⟩ := List.getElem?_eq_some_iff.mp he
  have e1 : (e.set i .no)[i]? = some .no := List.getElem?_set_self hi
  have e2 : ∀ t : Sl, (e.set i .no).set i t = e.set i t := fun t => List.set_set ..
  refine hwi _ ⟨fun v hv => ?_, ?_⟩
  · rw [List.mem_singleton.mp hv, List.getD_eq_getElem?_getD, he]
    exact ho
  · show lcGo [i] (gN i) tt te _ _ _ (e.set i .no)
    refine lc_map f y p e1 xs [] (fun x hx k hk => ?_) (fun x hx hp k hk => ?_) (by simpa using small_sz hl) ?_
    · rw [e2] at hk ⊢
      exact ht x hx k hk
    · rw [e2] at hk ⊢
      exact hy x hx hp k hk
    · show q _ ((e.set i .no).set i (e.getD i .no))
      rw [e2, List.getD_eq_getElem?_getD, he]
      have : e.set i s = e := by rw [← hs]; exact List.set_getElem_self hi
      show q _ (e.set i s)
      rw [this]
      exact hq
/-- drawn items: each keeps P -/
theorem wLC_draw {α : Type} {wi : WI} {te : WE} {e : En} {i : Nat} {q : D → En → Prop} (f : α → D) (P : Int → Prop) (xs : List α) (he : e[i]? = some .no) (hwi : ∀ r : List D → En → Prop, r (xs.map f) e → wi e r)
    (hy : ∀ x ∈ xs, ∀ k : D → En → Prop, (∀ r, P r → k (.int r) (e.set i (.val (f x)))) → te (e.set i (.val (f x))) k) (hl : xs.length ≤ 16777216) (hq : ∀ ns : List Int, ns.length = xs.length → (∀ n ∈ ns, P n) → q (.lst (ns.map D.int)) e) : wLC [i] wi (gN i) wYes te e q := by
  refine hwi _ ⟨free_no he, ?_⟩
  rw [wipe_no he]
  refine lc_draw f P he xs [] hy (by simpa using small_sz hl) fun ns h1 h2 => ?_
  rw [back_no he]
  exact hq ns h1 h2
theorem wR1_nat {wa : WA} {e : En} {r : List D → En → Prop} (n : Nat) (hn : n ≤ 1000000) (ha : ∀ k : List Ar → En → Prop, k [.d (.int (n : Nat))] e → wa e k) (h : r ((List.range n).map fun i => D.int (i : Nat)) e) : wR1 wa e r := by
  refine ha _ ⟨_, rfl, by omega, ?_⟩
  rw [show rgD 0 1 ((n : Nat) : Int).toNat = (List.range n).map fun i => D.int (i : Nat) from rgD_nat n]
  exact h
theorem a1_var {e : En} {j : Nat} {d : D} (h : e[j]? = some (.val d)) (k : List Ar → En → Prop) (hk : k [.d d] e) : wCons (wOf (wVar j)) wNil e k := by
  simp only [wCons, wOf, wVar, h, wNil]
  exact hk
theorem wR1_var {e : En} {j n : Nat} {r : List D → En → Prop} (h : e[j]? = some (.val (.int (n : Nat)))) (hn : n ≤ 1000000) (hr : r ((List.range n).map fun i => D.int (i : Nat)) e) : wR1 (wCons (wOf (wVar j)) wNil) e r :=
  wR1_nat n hn (fun k hk => a1_var h k hk) hr
theorem wIs_lst {e : En} {j : Nat} {xs : List D} {r : List D → En → Prop} (h : e[j]? = some (.val (.lst xs))) (hr : r xs e) : wIs (wVar j) e r := by
  simp only [wIs, wVar, h]
  exact hr
theorem wIs_tup {e : En} {j : Nat} {xs : List D} {r : List D → En → Prop} (h : e[j]? = some (.val (.tup xs))) (hr : r xs e) : wIs (wVar j) e r := by
  simp only [wIs, wVar, h]
  exact hr
/-- for i in range(n): an invariant by the turn -/
theorem for_range {wa : WA} {g : WG} {body : WS} {e : En} {E : DEnds} (n : Nat) (P : Nat → En → Prop) (hn : n ≤ 1000000) (ha : ∀ k : List Ar → En → Prop, k [.d (.int (n : Nat))] e → wa e k) (h0 : P 0 e)
    (hs : ∀ i, i < n → ∀ e, P i e → ∀ R : En → Prop, (∀ e', P (i + 1) e' → R e') → g (.int (i : Nat)) e fun e2 => body e2 { E with nx := R, ct := R, bk := E.nx }) (hd : ∀ e, P n e → E.nx e) : sFor (wR1 wa) g body e E := by
  show wR1 wa e _
  refine wR1_nat n hn ha ?_
  refine for_ind (α := Nat) (fun i => D.int (i : Nat)) (fun xs e => ∃ k, xs = List.range' k (n - k) ∧ k ≤ n ∧ P k e) (fun e h => ?_) (fun x xs e h R hR => ?_) (List.range n) e ⟨0, List.range_eq_range', Nat.zero_le _, h0⟩
  · obtain ⟨k, hk, hk2, hp⟩ := h
    have hk := congrArg List.length hk
    have : k = n := by
      simp at hk
      omega
    subst this
    exact hd _ hp
  · obtain ⟨k, hk, hk2, hp⟩ := h
    have hl : n - k = (n - (k + 1)) + 1 := by
      have := congrArg List.length hk
      simp at this
      omega
    rw [hl, List.range'_succ] at hk
    obtain ⟨rfl, rfl⟩ := List.cons.inj hk
    exact hs x (by omega) e hp R fun e' he' => hR e' ⟨x + 1, rfl, by omega, he'⟩
/-- one argument, of data d -/
def Arg1 (e : En) (d : D) (w : WA) : Prop := ∀ k : List Ar → En → Prop, (∀ as, resA e as = some [d] → k as e) → w e k
theorem arg_b {e : En} {j : Nat} {d : D} (h : e[j]? = some (.val d)) : Arg1 e d (wCons (wB j) wNil) := fun k hk => by
  simp only [wCons, wB, wNil, h]
  exact ⟨trivial, hk _ (by simp [h])⟩
theorem arg_own {e : En} {j : Nat} {xs : List D} (h : e[j]? = some (.own xs)) : Arg1 e (.lst xs) (wCons (wB j) wNil) := fun k hk => by
  simp only [wCons, wB, wNil, h]
  exact ⟨trivial, hk _ (by simp [h])⟩
theorem arg_of {e : En} {d : D} {w : WE} (h : ∀ q : D → En → Prop, q d e → w e q) : Arg1 e d (wCons (wOf w) wNil) := fun k hk => by
  simp only [wCons, wOf, wNil]
  exact h _ (hk _ rfl)
/-- repr(x) != repr(y): by equal data -/
theorem ne_repr {wa wb : WA} {e : En} {k : Bool → En → Prop} (d : D) (ha : Arg1 e d wa) (hb : Arg1 e d wb) (h1 : okE 60 d = true) (h2 : okS d = true) (h3 : rl d ≤ sizeLine) (hk : k false e) : wTB (w2 oNe (wOf (wPr oRepr wa)) (wOf (wPr oRepr wb))) e k := by
  simp only [wTB, w2, wOf, wPr]
  refine ha _ fun as h => ⟨_, h, ?_⟩
  simp only [oRepr]
  refine ⟨h1, h2, h3, hb _ fun bs h' => ⟨_, h', ?_⟩⟩
  simp only [oRepr]
  refine ⟨h1, h2, h3, _, rfl, ?_⟩
  simp
  exact hk
theorem okS_big {x : Int} (h0 : -(10 ^ 100) ≤ x) (h1 : x ≤ 10 ^ 100) : okS (.int x) = true := by
  simp only [okS, decide_eq_true_eq]
  by_cases h : x.natAbs = 0
  · rw [h]
    decide
  · refine (Nat.log2_lt h).mpr ?_
    have e : (10 : Nat) ^ 100 < 2 ^ 1920 := by decide +kernel
    have e2 : x.natAbs ≤ 10 ^ 100 := by omega
    omega
/-! expressions that give data and leave the slots alone -/
abbrev Ev (e : En) (w : WE) (d : D) : Prop := ∀ q : D → En → Prop, q d e → w e q
def ArgR (e : En) (ds : List D) (w : WA) : Prop := ∀ k : List Ar → En → Prop, (∀ as, reals as = some ds → k as e) → w e k
theorem argR_nil {e : En} : ArgR e [] wNil := fun k hk => hk [] rfl
theorem argR_cons {e : En} {d : D} {ds : List D} {w : WE} {ws : WA} (h : Ev e w d) (r : ArgR e ds ws) : ArgR e (d :: ds) (wCons (wOf w) ws) := fun k hk => by
  simp only [wCons, wOf]
  exact h _ (r _ fun as has => hk _ (by simp [has]))
theorem ev_var {e : En} {i : Nat} {d : D} (h : e[i]? = some (.val d)) : Ev e (wVar i) d := fun q hq => by
  simp only [wVar, h]
  exact hq
theorem ev_c {e : En} (d : D) : Ev e (wC d) d := fun q hq => hq
theorem wCall_of {J : GJ} {S : Spec} {n : Nat} {w : WA} {e : En} {q : D → En → Prop} (ds : List D) (hw : ArgR e ds w) (hl : ds.length = n) (h : S J ds fun d => q d e) : wCall J S n w e q := hw _ fun as has => ⟨ds, has, hl, h⟩
theorem w_draw {J : GJ} {M : Int} {a : Addr} {e : En} {i : Nat} {wm : WE} {m : Int} {q : D → En → Prop} (hJ : IsHand J a) (hi : e[i]? = some (.val (.tk a))) (hm : Ev e wm (.int m)) (m0 : 0 < m) (m1 : m ≤ M) (hq : ∀ r, 0 ≤ r → r < m → q (.int r) e) :
    wCall J (S_draw M) 2 (wCons (wOf (wVar i)) (wCons (wOf wm) wNil)) e q := wCall_of [.tk a, .int m] (argR_cons (ev_var hi) (argR_cons hm argR_nil)) rfl ⟨a, m, rfl, hJ, m0, m1, hq⟩
def S_some : Spec := fun J ds q => ∃ a xs, ds = [.tk a, .lst xs] ∧ IsHand J a ∧ xs ≠ [] ∧ xs.length ≤ 1000 ∧ ∀ x ∈ xs, q x
theorem w_some {J : GJ} {a : Addr} {e : En} {i : Nat} {wx : WE} {xs : List D} {q : D → En → Prop} (hJ : IsHand J a) (hi : e[i]? = some (.val (.tk a))) (hx : Ev e wx (.lst xs)) (h0 : xs ≠ []) (h1 : xs.length ≤ 1000) (hq : ∀ x ∈ xs, q x e) :
    wCall J S_some 2 (wCons (wOf (wVar i)) (wCons (wOf wx) wNil)) e q := wCall_of [.tk a, .lst xs] (argR_cons (ev_var hi) (argR_cons hx argR_nil)) rfl ⟨a, xs, rfl, hJ, h0, h1, hq⟩
end DL

/-! Spec27: what the defs compute, by data. -/
namespace DL
open PySem PySem.Spec PyProof.Rows L2
def topS (i : Nat) : Stmt := PySem.Challenge.pw_playershouse_k27_whole_shares_by_all_ord.main.body.getD i (.Pass ⟨0, 0, 0, 0⟩)
def inCls (i j : Nat) : Stmt := match topS i with
  | .ClassDef (body := b) .. => b.getD j (.Pass ⟨0, 0, 0, 0⟩)
  | s => s

/-! ### plain functions -/
def gD (n : Nat) (ws : List Int) : D := .ins "Gain" [("n", .int (n : Nat)), ("worths", tuI ws)]
abbrev bigW : Int := 10000000000000000000000
structure GOk (n : Nat) (ws : List Int) : Prop where
  lo : 1 ≤ n
  hi : n ≤ 4
  len : ws.length = 2 ^ n
  z : ws.getD 0 0 = 0
  top : ∀ w ∈ ws, -bigW ≤ w ∧ w ≤ bigW
def lotsN : Nat → List (List Nat)
  | 0 => [[]]
  | n + 1 => lotsN n ++ (lotsN n).map (· ++ [n])
def numN (l : List Nat) : Nat := (l.map (2 ^ ·)).sum
def stepO (n : Nat) (os : List (List Nat)) : List (List Nat) := os.flatMap fun o => ((List.range n).filter fun i => !o.contains i).map fun i => o ++ [i]
def ordN (n : Nat) : Nat → List (List Nat)
  | 0 => [[]]
  | k + 1 => stepO n (ordN n k)
def difI (ws : List Int) (o : List Nat) (j : Nat) : Int := ws.getD (numN (o.take (j + 1))) 0 - ws.getD (numN (o.take j)) 0
def fndI (n : Nat) (ws : List Int) (o : List Nat) (j : Nat) : List Int := (List.range n).map fun i => if o.idxOf i < j then difI ws o (o.idxOf i) else 0
def bringsI (n : Nat) (ws : List Int) (o : List Nat) : List Int := fndI n ws o n
def colI (os : List (List Int)) (i : Nat) : Int := (os.map fun o => o.getD i 0).sum
def gcdI (a b : Int) : Int := (Int.gcd a b : Nat)
def lowF (p q : Int) : Int × Int := (p / gcdI p q, q / gcdI p q)
def shapI (n : Nat) (ws : List Int) : List (Int × Int) := (List.range n).map fun i => lowF (colI ((ordN n n).map (bringsI n ws)) i) ((ordN n n).length : Nat)
def subN (o k : Nat) : Bool := (o &&& k) == o
def dvs (ws : List Int) : Nat → List Int
  | 0 => []
  | k + 1 => dvs ws k ++ [ws.getD k 0 - (((List.range k).filter fun o => subN o k).map fun o => (dvs ws k).getD o 0).sum]
def rise1 (ws : List Int) (k j : Nat) : Bool := decide (ws.getD k 0 + ws.getD j 0 ≤ ws.getD (k ||| j) 0 + ws.getD (k &&& j) 0)
def riseB (n : Nat) (ws : List Int) : Bool := (List.range (2 ^ n)).all fun k => (List.range (2 ^ n)).all fun j => rise1 ws k j
def swI (n : Nat) (ws : List Int) (i : Nat) : Nat := ((List.range (2 ^ n)).filter fun k => (k &&& 2 ^ i == 0) && decide (ws.getD k 0 < ws.getD (k ||| 2 ^ i) 0)).length
def swsI (n : Nat) (ws : List Int) : List Int := (List.range n).map fun i => ((swI n ws i : Nat) : Int)

/-! ### promises -/
def S_is_integer : Spec := fun _ ds q => (∃ i, ds = [.int i] ∧ q (.bl true)) ∨ ∃ b, ds = [.bl b] ∧ q (.bl false)
def S_is_within : Spec := fun _ ds q => (∃ i lo hi, ds = [.int i, .int lo, .int hi] ∧ q (.bl (decide (lo ≤ i) && decide (i ≤ hi)))) ∨ (∃ b lo hi, ds = [.bl b, .int lo, .int hi] ∧ q (.bl false))
def S_is_tuple : Spec := fun _ ds q => ∃ d n, ds = [d, .int n] ∧ ((∃ xs, d = .tup xs ∧ q (.bl (decide ((xs.length : Int) = n)))) ∨ ((d = .non ∨ (∃ xs, d = .lst xs) ∨ ∃ s, d = .str s) ∧ q (.bl false)))
/-- all numbers below n, each once -/
def isOrdB (n : Nat) (ns : List Int) : Bool := decide (ns.length = n) && ns.all (fun i => decide (0 ≤ i) && decide (i ≤ (n : Int) - 1)) && decide ns.Nodup
def S_is_order : Spec := fun _ ds q => ∃ (d : D) (n : Nat), ds = [d, .int n] ∧ 1 ≤ n ∧ n ≤ 4 ∧ ((∃ o, d = lotD o ∧ o ∈ ordN n n ∧ q (.bl true)) ∨ (d ∈ badD n ∧ q (.bl false)))
where badD (n : Nat) : List D := [.non, .lst (natD (List.range n)), .tup (natD (List.range (n + 1))), .tup (List.replicate (n + 1) (.int 0)), .tup [.int n], .str "0", .tup (List.replicate n (.bl true)), .tup (List.replicate n (.int (-1)))]
abbrev badD := S_is_order.badD
def S_orders_of : Spec := fun _ ds q => ∃ n : Nat, ds = [.lst (natD (List.range n))] ∧ n ≤ 4 ∧ q (.lst ((ordN n n).map lotD))
def S_lots_of : Spec := fun _ ds q => ∃ n : Nat, ds = [.int n] ∧ n ≤ 4 ∧ q (.lst ((lotsN n).map lotD))
def S_divisor_of : Spec := fun _ ds q => ∃ a b : Int, ds = [.int a, .int b] ∧ 0 ≤ a ∧ 0 ≤ b ∧ q (.int (gcdI a b))
def S_lowest : Spec := fun _ ds q => ∃ a b : Int, ds = [.int a, .int b] ∧ 0 < b ∧ b ≤ 1000 ∧ q (pairD (lowF a b))
def S_Gain : Spec := fun _ ds q => ∃ n ws, ds = [.int (n : Nat), tuI ws] ∧ GOk n ws ∧ q (gD n ws)
def S_Gain_eq : Spec := fun _ ds q => (∃ n ws, ds = [gD n ws, gD n ws] ∧ GOk n ws ∧ q (.bl true)) ∨ (∃ n ws xs, ds = [gD n ws, .tup xs] ∧ q (.bl false))
def S_number_of_lot : Spec := fun _ ds q => ∃ (l : List Nat) (d : D), ds = [d] ∧ (d = lotD l ∨ d = .lst (natD l)) ∧ (∀ i ∈ l, i < 4) ∧ l.length ≤ 8 ∧ q (.int (numN l : Nat))
def S_raw_brings : Spec := fun _ ds q => ∃ n ws o, ds = [gD n ws, lotD o] ∧ GOk n ws ∧ o ∈ ordN n n ∧ q (tuI (bringsI n ws o))
def S_brings : Spec := S_raw_brings
def SX_brings : SpecX := fun _ ds q xq => ∃ n ws d, ds = [gD n ws, d] ∧ GOk n ws ∧ d ∈ badD n ∧ xq "NoOrder" []
def S_shapley : Spec := fun _ ds q => ∃ n ws, ds = [gD n ws] ∧ GOk n ws ∧ q (.tup ((shapI n ws).map pairD))
def S_dividends : Spec := fun _ ds q => ∃ n ws, ds = [gD n ws] ∧ GOk n ws ∧ q (tuI (dvs ws (2 ^ n)))
def S_is_rising : Spec := fun _ ds q => ∃ n ws, ds = [gD n ws] ∧ GOk n ws ∧ q (.bl (riseB n ws))
def S_swings : Spec := fun _ ds q => ∃ n ws, ds = [gD n ws] ∧ GOk n ws ∧ q (tuI (swsI n ws))
abbrev mostDraw : Int := 200000000000000000001
def S__law_draw : Spec := S_draw mostDraw
def S__law_some : Spec := S_some
def S__law_common : Spec := fun _ ds q => ∃ a b : Int, ds = [.int a, .int b] ∧ 0 < b ∧ q (.int (gcdI a b))
def S__law_fraction : Spec := S_lowest
def S__law_orders : Spec := fun _ ds q => ∃ n : Nat, ds = [.int n] ∧ 1 ≤ n ∧ n ≤ 4 ∧ q (.lst ((ordN n n).map lotD))
def S__law_bit : Spec := fun _ ds q => ∃ i : Nat, ds = [.int i] ∧ i < 4 ∧ q (.int ((2 ^ i : Nat) : Int))
def S__law_worths : Spec := fun J ds q => ∃ a n, ds = [.tk a, .int (n : Nat)] ∧ IsHand J a ∧ 1 ≤ n ∧ n ≤ 4 ∧ ∀ ws, GOk n ws → q (tuI ws)
def S__law_brought : Spec := fun _ ds q => ∃ n ws o, ds = [tuI ws, lotD o] ∧ GOk n ws ∧ o ∈ ordN n n ∧ q (tuI (bringsI n ws o))
def S__law_is_refused : Spec := fun J ds q => ∃ a n ws, ds = [.tk a, gD n ws, .int (n : Nat)] ∧ IsHand J a ∧ GOk n ws ∧ q (.bl true)
def S__law_is_right : Spec := fun J ds q => ∃ a, ds = [.tk a] ∧ IsHand J a ∧ q (.bl true)
end DL

namespace DL
open PySem PySem.Spec PyProof.Rows L2

def mtT : List ((Str × Str) × Bool) := [(("NoOrder", "NoOrder"), true)]
def mtL (c h : Str) : Option Bool := mtT.lookup (c, h)
structure Glo (K : PySem.W.Frag) (mg : Str → Option Value) : Prop where
  b_abs : mg "abs" = none
  b_all : mg "all" = none
  b_bool : mg "bool" = none
  b_enumerate : mg "enumerate" = none
  b_int : mg "int" = none
  b_isinstance : mg "isinstance" = none
  b_len : mg "len" = none
  b_list : mg "list" = none
  b_range : mg "range" = none
  b_repr : mg "repr" = none
  b_set : mg "set" = none
  b_sum : mg "sum" = none
  b_tuple : mg "tuple" = none
  b_zip : mg "zip" = none
  c_MOST_PLAYERS : ∃ t, mg "MOST_PLAYERS" = some (.int 4 t)
  k_Gain : ∃ C, mg "Gain" = some (.ref C) ∧ ClsD K C ["n", "worths"]
  x_NoOrder : ∃ C, mg "NoOrder" = some (.ref C)
  x_PlayError : ∃ C, mg "PlayError" = some (.ref C)
  mt : MtOk K mg mtL

/-! ### is_integer: slots 0 thing -/
abbrev st_is_integer : Stmt := topS 1
abbrev N_is_integer : List Str := ["thing"]
theorem sc_is_integer : FnScope N_is_integer ["thing"] (defScope st_is_integer) := ⟨rfl, rfl, rfl, by decide +kernel, rfl, by decide +kernel, by decide +kernel⟩
def w_is_integer (J : GJ) : WS := sRet (wAnd (wPr oIsi (wCons (wB 0) (wCons (wOf (wC (.ty "int"))) wNil))) (wNot (wPr oIsi (wCons (wB 0) (wCons (wOf (wC (.ty "bool"))) wNil)))))
theorem b_is_integer {g : Bool} {P : Program} {w : World} {K : PySem.W.Frag} {mg : Str → Option Value} {base : Heap} (G : Glo K mg)  (J : GJ) {fa : Addr} {cd : Value} {A : Around} {outer : List Env} {s : Shared} {H : Hp} {E : XK} (hr : Rm g 0 (A.deeper (envOfC "is_integer" (defScope st_is_integer) s.heap.objs.size fa cd))) :
    DSs (cxOf L2.CX0 P w K mg base N_is_integer "is_integer" (defScope st_is_integer) fa cd A outer s H E).nox J (defBody st_is_integer) (w_is_integer J) := by
  have nd : N_is_integer.Nodup := sc_is_integer.nd
  have u64 := hr.rm.units
  have u65 : (A.deeper (envOfC "is_integer" (defScope st_is_integer) s.heap.objs.size fa cd)).units + 65 < cLine := by have := hr.rm.un; omega
  have u1 : (A.deeper (envOfC "is_integer" (defScope st_is_integer) s.heap.objs.size fa cd)).units + 1 < cLine := by have := hr.rm.un; omega
  exact (dss_one (ds_ret (de_and (de_callB cd_isi (by rfl) G.b_isinstance PyProof.Rows.boot_isinstance (da_cons (db_var 0 (pv 0)) (da_cons (db_of (de_ty rfl G.b_int PyProof.Rows.boot_int)) da_nil))) (de_one (de_not (de_callB cd_isi (by rfl) G.b_isinstance PyProof.Rows.boot_isinstance (da_cons (db_var 0 (pv 0)) (da_cons (db_of (de_ty rfl G.b_bool PyProof.Rows.boot_bool)) da_nil))))))))
theorem c_is_integer {g : Bool} {P : Program} {w : World} {K : PySem.W.Frag} {mg : Str → Option Value} {base : Heap} (G : Glo K mg)  {f : Addr} {fd : FuncData} (Fu : L2.Fun K "is_integer" "is_integer" st_is_integer f fd) (hm : mg "is_integer" = some (.ref f)) (hb : Binds K fd ["thing"] []) (ver : ∀ (J : GJ) (ds : List D) (q : D → Prop), ds.length = 1 → S_is_integer J ds q → w_is_integer J (startE N_is_integer ds) { nx := fun _ => q .non, rt := fun d _ => q d }) : CalG g P w K mg base 1 "is_integer" S_is_integer 1 :=
  cal_D Fu sc_is_integer hm hb (fun J cd A outer s H E hr => b_is_integer G  J hr) ver

/-! ### is_within: slots 0 thing, 1 least, 2 most -/
abbrev st_is_within : Stmt := topS 2
abbrev N_is_within : List Str := ["thing", "least", "most"]
theorem sc_is_within : FnScope N_is_within ["thing", "least", "most"] (defScope st_is_within) := ⟨rfl, rfl, rfl, by decide +kernel, rfl, by decide +kernel, by decide +kernel⟩
def w_is_within (J : GJ) : WS := sRet (wAnd (wCall J S_is_integer 1 (wCons (wOf (wVar 0)) wNil)) (wChain oLe oLe (wB 1) (wB 0) (wB 2)))
theorem b_is_within {g : Bool} {P : Program} {w : World} {K : PySem.W.Frag} {mg : Str → Option Value} {base : Heap} (G : Glo K mg) (c_is_integer : CalG g P w K mg base 1 "is_integer" S_is_integer 1)  (J : GJ) {fa : Addr} {cd : Value} {A : Around} {outer : List Env} {s : Shared} {H : Hp} {E : XK} (hr : Rm g 1 (A.deeper (envOfC "is_within" (defScope st_is_within) s.heap.objs.size fa cd))) :
    DSs (cxOf L2.CX0 P w K mg base N_is_within "is_within" (defScope st_is_within) fa cd A outer s H E).nox J (defBody st_is_within) (w_is_within J) := by
  have nd : N_is_within.Nodup := sc_is_within.nd
  have u64 := hr.rm.units
  have u65 : (A.deeper (envOfC "is_within" (defScope st_is_within) s.heap.objs.size fa cd)).units + 65 < cLine := by have := hr.rm.un; omega
  have u1 : (A.deeper (envOfC "is_within" (defScope st_is_within) s.heap.objs.size fa cd)).units + 1 < cLine := by have := hr.rm.un; omega
  exact (dss_one (ds_ret (de_and (de_call c_is_integer hr (by decide) (by rfl) (da_cons (db_of (de_var 0 (pv 0))) da_nil)) (de_one (de_chain od_le od_le (db_var 1 (pv 1)) (db_var 0 (pv 0)) (db_var 2 (pv 2)))))))
theorem c_is_within {g : Bool} {P : Program} {w : World} {K : PySem.W.Frag} {mg : Str → Option Value} {base : Heap} (G : Glo K mg) (c_is_integer : CalG g P w K mg base 1 "is_integer" S_is_integer 1)  {f : Addr} {fd : FuncData} (Fu : L2.Fun K "is_within" "is_within" st_is_within f fd) (hm : mg "is_within" = some (.ref f)) (hb : Binds K fd ["thing", "least", "most"] []) (ver : ∀ (J : GJ) (ds : List D) (q : D → Prop), ds.length = 3 → S_is_within J ds q → w_is_within J (startE N_is_within ds) { nx := fun _ => q .non, rt := fun d _ => q d }) : CalG g P w K mg base 2 "is_within" S_is_within 3 :=
  cal_D Fu sc_is_within hm hb (fun J cd A outer s H E hr => b_is_within G c_is_integer J hr) ver

/-! ### is_tuple: slots 0 thing, 1 size -/
abbrev st_is_tuple : Stmt := topS 3
abbrev N_is_tuple : List Str := ["thing", "size"]
theorem sc_is_tuple : FnScope N_is_tuple ["thing", "size"] (defScope st_is_tuple) := ⟨rfl, rfl, rfl, by decide +kernel, rfl, by decide +kernel, by decide +kernel⟩
def w_is_tuple (J : GJ) : WS := sRet (wAnd (wPr oIsi (wCons (wB 0) (wCons (wOf (wC (.ty "tuple"))) wNil))) (w2 oEq (wOf (wPr oLen (wCons (wB 0) wNil))) (wB 1)))
theorem b_is_tuple {g : Bool} {P : Program} {w : World} {K : PySem.W.Frag} {mg : Str → Option Value} {base : Heap} (G : Glo K mg)  (J : GJ) {fa : Addr} {cd : Value} {A : Around} {outer : List Env} {s : Shared} {H : Hp} {E : XK} (hr : Rm g 0 (A.deeper (envOfC "is_tuple" (defScope st_is_tuple) s.heap.objs.size fa cd))) :
    DSs (cxOf L2.CX0 P w K mg base N_is_tuple "is_tuple" (defScope st_is_tuple) fa cd A outer s H E).nox J (defBody st_is_tuple) (w_is_tuple J) := by
  have nd : N_is_tuple.Nodup := sc_is_tuple.nd
  have u64 := hr.rm.units
  have u65 : (A.deeper (envOfC "is_tuple" (defScope st_is_tuple) s.heap.objs.size fa cd)).units + 65 < cLine := by have := hr.rm.un; omega
  have u1 : (A.deeper (envOfC "is_tuple" (defScope st_is_tuple) s.heap.objs.size fa cd)).units + 1 < cLine := by have := hr.rm.un; omega
  exact (dss_one (ds_ret (de_and (de_callB cd_isi (by rfl) G.b_isinstance PyProof.Rows.boot_isinstance (da_cons (db_var 0 (pv 0)) (da_cons (db_of (de_ty rfl G.b_tuple PyProof.Rows.boot_tuple)) da_nil))) (de_one (de_cmp (od_eq u64) (db_of (de_callB cd_len (by rfl) G.b_len PySem.boot_len (da_cons (db_var 0 (pv 0)) da_nil))) (db_var 1 (pv 1)) (by with_unfolding_all rfl))))))
theorem c_is_tuple {g : Bool} {P : Program} {w : World} {K : PySem.W.Frag} {mg : Str → Option Value} {base : Heap} (G : Glo K mg)  {f : Addr} {fd : FuncData} (Fu : L2.Fun K "is_tuple" "is_tuple" st_is_tuple f fd) (hm : mg "is_tuple" = some (.ref f)) (hb : Binds K fd ["thing", "size"] []) (ver : ∀ (J : GJ) (ds : List D) (q : D → Prop), ds.length = 2 → S_is_tuple J ds q → w_is_tuple J (startE N_is_tuple ds) { nx := fun _ => q .non, rt := fun d _ => q d }) : CalG g P w K mg base 1 "is_tuple" S_is_tuple 2 :=
  cal_D Fu sc_is_tuple hm hb (fun J cd A outer s H E hr => b_is_tuple G  J hr) ver

/-! ### is_order: slots 0 thing, 1 many, 2 one -/
abbrev st_is_order : Stmt := topS 4
abbrev N_is_order : List Str := ["thing", "many", "one"]
theorem sc_is_order : FnScope N_is_order ["thing", "many"] (defScope st_is_order) := ⟨rfl, rfl, rfl, by decide +kernel, rfl, by decide +kernel, by decide +kernel⟩
def w_is_order (J : GJ) : WS := sSeq (sIf (wTOr (wTNot (wTB (wCall J S_is_tuple 2 (wCons (wOf (wVar 0)) (wCons (wOf (wVar 1)) wNil))))) (wTNot (wTB (wPr oAll (wCons (wOf (wLC [2] (wIs (wVar 0)) (gN 2) wYes (wCall J S_is_within 3 (wCons (wOf (wVar 2)) (wCons (wOf (wC (.int 0))) (wCons (wOf (w2 oSub (wB 1) (wOf (wC (.int 1))))) wNil)))))) wNil))))) (sRet (wC (.bl false))) sNil) (sRet (w2 oEq (wOf (wLenSet (wVar 0))) (wB 1)))
theorem b_is_order {g : Bool} {P : Program} {w : World} {K : PySem.W.Frag} {mg : Str → Option Value} {base : Heap} (G : Glo K mg) (c_is_tuple : CalG g P w K mg base 1 "is_tuple" S_is_tuple 2) (c_is_within : CalG g P w K mg base 2 "is_within" S_is_within 3)  (J : GJ) {fa : Addr} {cd : Value} {A : Around} {outer : List Env} {s : Shared} {H : Hp} {E : XK} (hr : Rm g 2 (A.deeper (envOfC "is_order" (defScope st_is_order) s.heap.objs.size fa cd))) :
    DSs (cxOf L2.CX0 P w K mg base N_is_order "is_order" (defScope st_is_order) fa cd A outer s H E).nox J (defBody st_is_order) (w_is_order J) := by
  have nd : N_is_order.Nodup := sc_is_order.nd
  have u64 := hr.rm.units
  have u65 : (A.deeper (envOfC "is_order" (defScope st_is_order) s.heap.objs.size fa cd)).units + 65 < cLine := by have := hr.rm.un; omega
  have u1 : (A.deeper (envOfC "is_order" (defScope st_is_order) s.heap.objs.size fa cd)).units + 1 < cLine := by have := hr.rm.un; omega
  exact (dss_cons (ds_if (dt_of (dw_or (dt_not (dt_val (de_call c_is_tuple hr (by decide) (by rfl) (da_cons (db_of (de_var 0 (pv 0))) (da_cons (db_of (de_var 1 (pv 1))) da_nil))))) (dw_or1 (dt_not (dt_val (de_callB (cd_all rfl) (by rfl) G.b_all PyProof.Rows.boot_all (da_cons (db_of (de_lc rfl nd (di_seq (de_var 0 (pv 0))) (blkOk_by (own := [("one", 2)]) (by kernel_rfl)) (fun _ _ _ _ _ => (dg_name 2 (L2.pg_name nd rfl (by first | exact .inl rfl | exact .inr rfl)))) (fun _ _ _ _ _ => dts_nil) (fun _ _ _ _ _ => (de_call c_is_within hr (by decide) (by rfl) (da_cons (db_of (de_var 2 (pv 2))) (da_cons (db_of de_int) (da_cons (db_of (de_op od_sub (db_var 1 (pv 1)) (db_of de_int))) da_nil))))))) da_nil))))))) (dss_one (ds_ret de_bl)) dss_nil) (dss_one (ds_ret (de_cmp (od_eq u64) (db_of (de_lenSet rfl G.b_len rfl G.b_set (de_var 0 (pv 0)))) (db_var 1 (pv 1)) (by with_unfolding_all rfl)))))
theorem c_is_order {g : Bool} {P : Program} {w : World} {K : PySem.W.Frag} {mg : Str → Option Value} {base : Heap} (G : Glo K mg) (c_is_tuple : CalG g P w K mg base 1 "is_tuple" S_is_tuple 2) (c_is_within : CalG g P w K mg base 2 "is_within" S_is_within 3)  {f : Addr} {fd : FuncData} (Fu : L2.Fun K "is_order" "is_order" st_is_order f fd) (hm : mg "is_order" = some (.ref f)) (hb : Binds K fd ["thing", "many"] []) (ver : ∀ (J : GJ) (ds : List D) (q : D → Prop), ds.length = 2 → S_is_order J ds q → w_is_order J (startE N_is_order ds) { nx := fun _ => q .non, rt := fun d _ => q d }) : CalG g P w K mg base 3 "is_order" S_is_order 2 :=
  cal_D Fu sc_is_order hm hb (fun J cd A outer s H E hr => b_is_order G c_is_tuple c_is_within J hr) ver

/-! ### orders_of: slots 0 things, 1 found, 2 turn, 3 order, 4 one -/
abbrev st_orders_of : Stmt := topS 5
abbrev N_orders_of : List Str := ["things", "found", "turn", "order", "one"]
theorem sc_orders_of : FnScope N_orders_of ["things"] (defScope st_orders_of) := ⟨rfl, rfl, rfl, by decide +kernel, rfl, by decide +kernel, by decide +kernel⟩
def w_orders_of (J : GJ) : WS := sSeq (sSet 1 (wVal (wLst (wCons (wOf (wTup wNil)) wNil)))) (sSeq (sFor (wIs (wVar 0)) (gN 2) (sSet 1 (wVal (wLC2 [3, 4] [4] (wIs (wVar 1)) (gN 3) wYes (wIs (wVar 0)) (gN 4) (wTB (w2 oNotIn (wB 4) (wB 3))) (w2 oAdd (wB 3) (wOf (wTup (wCons (wOf (wVar 4)) wNil)))))))) (sRet (wVar 1)))
theorem b_orders_of {g : Bool} {P : Program} {w : World} {K : PySem.W.Frag} {mg : Str → Option Value} {base : Heap} (G : Glo K mg)  (J : GJ) {fa : Addr} {cd : Value} {A : Around} {outer : List Env} {s : Shared} {H : Hp} {E : XK} (hr : Rm g 0 (A.deeper (envOfC "orders_of" (defScope st_orders_of) s.heap.objs.size fa cd))) :
    DSs (cxOf L2.CX0 P w K mg base N_orders_of "orders_of" (defScope st_orders_of) fa cd A outer s H E).nox J (defBody st_orders_of) (w_orders_of J) := by
  have nd : N_orders_of.Nodup := sc_orders_of.nd
  have u64 := hr.rm.units
  have u65 : (A.deeper (envOfC "orders_of" (defScope st_orders_of) s.heap.objs.size fa cd)).units + 65 < cLine := by have := hr.rm.un; omega
  have u1 : (A.deeper (envOfC "orders_of" (defScope st_orders_of) s.heap.objs.size fa cd)).units + 1 < cLine := by have := hr.rm.un; omega
  exact (dss_cons (ds_set nd rfl (by first | exact .inl rfl | exact .inr rfl) (dv_of (de_lst (da_cons (db_of (de_tup da_nil)) da_nil)))) (dss_cons (ds_for PassesOwn.never rfl (di_seq (de_var 0 (pv 0))) (dg_name 2 (L2.pg_name nd rfl (by first | exact .inl rfl | exact .inr rfl))) (dss_one (ds_setLc2 rfl nd rfl rfl rfl (di_seq (de_var 1 (pv 1))) (blkOk_by (own := [("order", 3), ("one", 4)]) (by kernel_rfl)) (by decide) (fun _ _ _ _ _ => DG.wide (dg_name 3 (L2.pg_name nd rfl (by first | exact .inl rfl | exact .inr rfl))) (by decide)) (fun _ _ _ _ _ => dts_nil) (fun _ _ _ _ _ => (di_seq (de_var 0 (pv 0)))) (fun _ _ _ _ _ => (dg_name 4 (L2.pg_name nd rfl (by first | exact .inl rfl | exact .inr rfl)))) (fun _ _ _ _ _ => dts_one (dt_cmp (od_notIn u65) (db_var 4 (pv 4)) (db_var 3 (pv 3)) (by with_unfolding_all rfl))) (fun _ _ _ _ _ => (de_op od_add (db_var 3 (pv 3)) (db_of (de_tup (da_cons (db_of (de_var 4 (pv 4))) da_nil)))))))) (dss_one (ds_ret (de_var 1 (pv 1))))))
theorem c_orders_of {g : Bool} {P : Program} {w : World} {K : PySem.W.Frag} {mg : Str → Option Value} {base : Heap} (G : Glo K mg)  {f : Addr} {fd : FuncData} (Fu : L2.Fun K "orders_of" "orders_of" st_orders_of f fd) (hm : mg "orders_of" = some (.ref f)) (hb : Binds K fd ["things"] []) (ver : ∀ (J : GJ) (ds : List D) (q : D → Prop), ds.length = 1 → S_orders_of J ds q → w_orders_of J (startE N_orders_of ds) { nx := fun _ => q .non, rt := fun d _ => q d }) : CalG g P w K mg base 1 "orders_of" S_orders_of 1 :=
  cal_D Fu sc_orders_of hm hb (fun J cd A outer s H E hr => b_orders_of G  J hr) ver

/-! ### lots_of: slots 0 many, 1 found, 2 one, 3 lot -/
abbrev st_lots_of : Stmt := topS 6
abbrev N_lots_of : List Str := ["many", "found", "one", "lot"]
theorem sc_lots_of : FnScope N_lots_of ["many"] (defScope st_lots_of) := ⟨rfl, rfl, rfl, by decide +kernel, rfl, by decide +kernel, by decide +kernel⟩
def w_lots_of (J : GJ) : WS := sSeq (sSet 1 (wVal (wLst (wCons (wOf (wTup wNil)) wNil)))) (sSeq (sFor (wR1 (wCons (wOf (wVar 0)) wNil)) (gN 2) (sSet 1 (wVal (w2 oAdd (wB 1) (wOf (wLC [3] (wIs (wVar 1)) (gN 3) wYes (w2 oAdd (wB 3) (wOf (wTup (wCons (wOf (wVar 2)) wNil)))))))))) (sRet (wVar 1)))
theorem b_lots_of {g : Bool} {P : Program} {w : World} {K : PySem.W.Frag} {mg : Str → Option Value} {base : Heap} (G : Glo K mg)  (J : GJ) {fa : Addr} {cd : Value} {A : Around} {outer : List Env} {s : Shared} {H : Hp} {E : XK} (hr : Rm g 0 (A.deeper (envOfC "lots_of" (defScope st_lots_of) s.heap.objs.size fa cd))) :
    DSs (cxOf L2.CX0 P w K mg base N_lots_of "lots_of" (defScope st_lots_of) fa cd A outer s H E).nox J (defBody st_lots_of) (w_lots_of J) := by
  have nd : N_lots_of.Nodup := sc_lots_of.nd
  have u64 := hr.rm.units
  have u65 : (A.deeper (envOfC "lots_of" (defScope st_lots_of) s.heap.objs.size fa cd)).units + 65 < cLine := by have := hr.rm.un; omega
  have u1 : (A.deeper (envOfC "lots_of" (defScope st_lots_of) s.heap.objs.size fa cd)).units + 1 < cLine := by have := hr.rm.un; omega
  exact (dss_cons (ds_set nd rfl (by first | exact .inl rfl | exact .inr rfl) (dv_of (de_lst (da_cons (db_of (de_tup da_nil)) da_nil)))) (dss_cons (ds_for PassesOwn.never rfl (di_r1 (by rfl) G.b_range (da_cons (db_of (de_var 0 (pv 0))) da_nil)) (dg_name 2 (L2.pg_name nd rfl (by first | exact .inl rfl | exact .inr rfl))) (dss_one (ds_set nd rfl (by first | exact .inl rfl | exact .inr rfl) (dv_of (de_op od_add (db_var 1 (pv 1)) (db_of (de_lc rfl nd (di_seq (de_var 1 (pv 1))) (blkOk_by (own := [("lot", 3)]) (by kernel_rfl)) (fun _ _ _ _ _ => (dg_name 3 (L2.pg_name nd rfl (by first | exact .inl rfl | exact .inr rfl)))) (fun _ _ _ _ _ => dts_nil) (fun _ _ _ _ _ => (de_op od_add (db_var 3 (pv 3)) (db_of (de_tup (da_cons (db_of (de_var 2 (pv 2))) da_nil)))))))))))) (dss_one (ds_ret (de_var 1 (pv 1))))))
theorem c_lots_of {g : Bool} {P : Program} {w : World} {K : PySem.W.Frag} {mg : Str → Option Value} {base : Heap} (G : Glo K mg)  {f : Addr} {fd : FuncData} (Fu : L2.Fun K "lots_of" "lots_of" st_lots_of f fd) (hm : mg "lots_of" = some (.ref f)) (hb : Binds K fd ["many"] []) (ver : ∀ (J : GJ) (ds : List D) (q : D → Prop), ds.length = 1 → S_lots_of J ds q → w_lots_of J (startE N_lots_of ds) { nx := fun _ => q .non, rt := fun d _ => q d }) : CalG g P w K mg base 1 "lots_of" S_lots_of 1 :=
  cal_D Fu sc_lots_of hm hb (fun J cd A outer s H E hr => b_lots_of G  J hr) ver

/-! ### divisor_of: slots 0 one, 1 other -/
abbrev st_divisor_of : Stmt := topS 12
abbrev N_divisor_of : List Str := ["one", "other"]
theorem sc_divisor_of : FnScope N_divisor_of ["one", "other"] (defScope st_divisor_of) := ⟨rfl, rfl, rfl, by decide +kernel, rfl, by decide +kernel, by decide +kernel⟩
def w_divisor_of (J : GJ) : WS := sSeq (sWhile (wTB (w2 oGt (wB 1) (wOf (wC (.int 0))))) (sPar 0 1 (wVal (wVar 1)) (wVal (w2 oMod (wB 0) (wB 1))))) (sRet (wVar 0))
theorem b_divisor_of {g : Bool} {P : Program} {w : World} {K : PySem.W.Frag} {mg : Str → Option Value} {base : Heap} (G : Glo K mg)  (J : GJ) {fa : Addr} {cd : Value} {A : Around} {outer : List Env} {s : Shared} {H : Hp} {E : XK} (hr : Rm g 0 (A.deeper (envOfC "divisor_of" (defScope st_divisor_of) s.heap.objs.size fa cd))) :
    DSs (cxOf L2.CX0 P w K mg base N_divisor_of "divisor_of" (defScope st_divisor_of) fa cd A outer s H E).nox J (defBody st_divisor_of) (w_divisor_of J) := by
  have nd : N_divisor_of.Nodup := sc_divisor_of.nd
  have u64 := hr.rm.units
  have u65 : (A.deeper (envOfC "divisor_of" (defScope st_divisor_of) s.heap.objs.size fa cd)).units + 65 < cLine := by have := hr.rm.un; omega
  have u1 : (A.deeper (envOfC "divisor_of" (defScope st_divisor_of) s.heap.objs.size fa cd)).units + 1 < cLine := by have := hr.rm.un; omega
  exact (dss_cons (ds_while PassesOwn.never (dt_cmp od_gt (db_var 1 (pv 1)) (db_of de_int) (by with_unfolding_all rfl)) (dss_one (ds_par rfl nd rfl rfl (by decide) rfl rfl (dv_of (de_var 1 (pv 1))) (dv_of (de_op od_mod (db_var 0 (pv 0)) (db_var 1 (pv 1)))) rfl))) (dss_one (ds_ret (de_var 0 (pv 0)))))
theorem c_divisor_of {g : Bool} {P : Program} {w : World} {K : PySem.W.Frag} {mg : Str → Option Value} {base : Heap} (G : Glo K mg)  {f : Addr} {fd : FuncData} (Fu : L2.Fun K "divisor_of" "divisor_of" st_divisor_of f fd) (hm : mg "divisor_of" = some (.ref f)) (hb : Binds K fd ["one", "other"] []) (ver : ∀ (J : GJ) (ds : List D) (q : D → Prop), ds.length = 2 → S_divisor_of J ds q → w_divisor_of J (startE N_divisor_of ds) { nx := fun _ => q .non, rt := fun d _ => q d }) : CalG g P w K mg base 1 "divisor_of" S_divisor_of 2 :=
  cal_D Fu sc_divisor_of hm hb (fun J cd A outer s H E hr => b_divisor_of G  J hr) ver

/-! ### lowest: slots 0 p, 1 q, 2 by -/
abbrev st_lowest : Stmt := topS 13
abbrev N_lowest : List Str := ["p", "q", "by"]
theorem sc_lowest : FnScope N_lowest ["p", "q"] (defScope st_lowest) := ⟨rfl, rfl, rfl, by decide +kernel, rfl, by decide +kernel, by decide +kernel⟩
def w_lowest (J : GJ) : WS := sSeq (sIf (wTB (w2 oLt (wB 1) (wOf (wC (.int 0))))) (sPar 0 1 (wVal (w1 oNeg (wB 0))) (wVal (w1 oNeg (wB 1)))) sNil) (sSeq (sSet 2 (wVal (wCall J S_divisor_of 2 (wCons (wOf (wPr oAbs (wCons (wB 0) wNil))) (wCons (wOf (wVar 1)) wNil))))) (sRet (wTup (wCons (wOf (w2 oDivW (wB 0) (wB 2))) (wCons (wOf (w2 oDivW (wB 1) (wB 2))) wNil)))))
theorem b_lowest {g : Bool} {P : Program} {w : World} {K : PySem.W.Frag} {mg : Str → Option Value} {base : Heap} (G : Glo K mg) (c_divisor_of : CalG g P w K mg base 1 "divisor_of" S_divisor_of 2)  (J : GJ) {fa : Addr} {cd : Value} {A : Around} {outer : List Env} {s : Shared} {H : Hp} {E : XK} (hr : Rm g 1 (A.deeper (envOfC "lowest" (defScope st_lowest) s.heap.objs.size fa cd))) :
    DSs (cxOf L2.CX0 P w K mg base N_lowest "lowest" (defScope st_lowest) fa cd A outer s H E).nox J (defBody st_lowest) (w_lowest J) := by
  have nd : N_lowest.Nodup := sc_lowest.nd
  have u64 := hr.rm.units
  have u65 : (A.deeper (envOfC "lowest" (defScope st_lowest) s.heap.objs.size fa cd)).units + 65 < cLine := by have := hr.rm.un; omega
  have u1 : (A.deeper (envOfC "lowest" (defScope st_lowest) s.heap.objs.size fa cd)).units + 1 < cLine := by have := hr.rm.un; omega
  exact (dss_cons (ds_if (dt_cmp od_lt (db_var 1 (pv 1)) (db_of de_int) (by with_unfolding_all rfl)) (dss_one (ds_par rfl nd rfl rfl (by decide) rfl rfl (dv_of (de_un ud_neg (db_var 0 (pv 0)))) (dv_of (de_un ud_neg (db_var 1 (pv 1)))) rfl)) dss_nil) (dss_cons (ds_set nd rfl (by first | exact .inl rfl | exact .inr rfl) (dv_of (de_call c_divisor_of hr (by decide) (by rfl) (da_cons (db_of (de_callB cd_abs (by rfl) G.b_abs PyProof.Rows.boot_abs (da_cons (db_var 0 (pv 0)) da_nil))) (da_cons (db_of (de_var 1 (pv 1))) da_nil))))) (dss_one (ds_ret (de_tup (da_cons (db_of (de_op od_divW (db_var 0 (pv 0)) (db_var 2 (pv 2)))) (da_cons (db_of (de_op od_divW (db_var 1 (pv 1)) (db_var 2 (pv 2)))) da_nil)))))))
theorem c_lowest {g : Bool} {P : Program} {w : World} {K : PySem.W.Frag} {mg : Str → Option Value} {base : Heap} (G : Glo K mg) (c_divisor_of : CalG g P w K mg base 1 "divisor_of" S_divisor_of 2)  {f : Addr} {fd : FuncData} (Fu : L2.Fun K "lowest" "lowest" st_lowest f fd) (hm : mg "lowest" = some (.ref f)) (hb : Binds K fd ["p", "q"] []) (ver : ∀ (J : GJ) (ds : List D) (q : D → Prop), ds.length = 2 → S_lowest J ds q → w_lowest J (startE N_lowest ds) { nx := fun _ => q .non, rt := fun d _ => q d }) : CalG g P w K mg base 2 "lowest" S_lowest 2 :=
  cal_D Fu sc_lowest hm hb (fun J cd A outer s H E hr => b_lowest G c_divisor_of J hr) ver

/-! ### Gain.__init__: slots 0 self, 1 n, 2 worths, 3 one -/
abbrev st_Gain : Stmt := inCls 16 0
abbrev N_Gain : List Str := ["self", "n", "worths", "one"]
theorem sc_Gain : FnScope N_Gain ["self", "n", "worths"] (defScope st_Gain) := ⟨rfl, rfl, rfl, by decide +kernel, rfl, by decide +kernel, by decide +kernel⟩
def w_Gain (J : GJ) : WN := nPre (sIf (wTNot (wTB (wCall J S_is_within 3 (wCons (wOf (wVar 1)) (wCons (wOf (wC (.int 1))) (wCons (wOf (wC (.int 4))) wNil)))))) sNever sNil) (nPre (sIf (wTOr (wTNot (wTB (wCall J S_is_tuple 2 (wCons (wOf (wVar 2)) (wCons (wOf (wPr oLen (wCons (wOf (wCall J S_lots_of 1 (wCons (wOf (wVar 1)) wNil))) wNil))) wNil))))) (wTOr (wTNot (wTB (wPr oAll (wCons (wOf (wLC [3] (wIs (wVar 2)) (gN 3) wYes (wCall J S_is_integer 1 (wCons (wOf (wVar 3)) wNil)))) wNil)))) (wTB (w2 oNe (wOf (w2 oIx (wB 2) (wOf (wC (.int 0))))) (wOf (wC (.int 0))))))) sNever sNil) (nFld "n" (wVar 1) (nFld "worths" (wVar 2) nNil)))
theorem b_Gain {P : Program} {w : World} {K : PySem.W.Frag} {mg : Str → Option Value} {base : Heap} (G : Glo K mg) (c_lots_of : CalG false P w K mg base 1 "lots_of" S_lots_of 1) (c_is_tuple : CalG false P w K mg base 1 "is_tuple" S_is_tuple 2) (c_is_integer : CalG false P w K mg base 1 "is_integer" S_is_integer 1) (c_is_within : CalG false P w K mg base 2 "is_within" S_is_within 3)  (J : GJ) {fa : Addr} {cd : Value} {A : Around} {outer : List Env} {s : Shared} {H : Hp} {E : XK} (hr : Rm false 2 (A.deeper (envOfC "Gain.__init__" (defScope st_Gain) s.heap.objs.size fa cd))) :
    DN (cxOf L2.CX0 P w K mg base N_Gain "Gain.__init__" (defScope st_Gain) fa cd A outer s H E).nox J "Gain" (defBody st_Gain) (w_Gain J) := by
  have nd : N_Gain.Nodup := sc_Gain.nd
  have u64 := hr.rm.units
  have u65 : (A.deeper (envOfC "Gain.__init__" (defScope st_Gain) s.heap.objs.size fa cd)).units + 65 < cLine := by have := hr.rm.un; omega
  have u1 : (A.deeper (envOfC "Gain.__init__" (defScope st_Gain) s.heap.objs.size fa cd)).units + 1 < cLine := by have := hr.rm.un; omega
  exact (dn_pre (ds_if (dt_not (dt_val (de_call c_is_within hr (by decide) (by rfl) (da_cons (db_of (de_var 1 (pv 1))) (da_cons (db_of de_int) (da_cons (db_of (de_gi rfl G.c_MOST_PLAYERS)) da_nil)))))) (dss_one ds_never) dss_nil) (dn_pre (ds_if (dt_of (dw_or (dt_not (dt_val (de_call c_is_tuple hr (by decide) (by rfl) (da_cons (db_of (de_var 2 (pv 2))) (da_cons (db_of (de_callB cd_len (by rfl) G.b_len PySem.boot_len (da_cons (db_of (de_call c_lots_of hr (by decide) (by rfl) (da_cons (db_of (de_var 1 (pv 1))) da_nil))) da_nil))) da_nil))))) (dw_or (dt_not (dt_val (de_callB (cd_all rfl) (by rfl) G.b_all PyProof.Rows.boot_all (da_cons (db_of (de_lc rfl nd (di_seq (de_var 2 (pv 2))) (blkOk_by (own := [("one", 3)]) (by kernel_rfl)) (fun _ _ _ _ _ => (dg_name 3 (L2.pg_name nd rfl (by first | exact .inl rfl | exact .inr rfl)))) (fun _ _ _ _ _ => dts_nil) (fun _ _ _ _ _ => (de_call c_is_integer hr (by decide) (by rfl) (da_cons (db_of (de_var 3 (pv 3))) da_nil))))) da_nil)))) (dw_or1 (dt_cmp (od_ne u64) (db_of (de_ix od_ix (db_var 2 (pv 2)) (db_of de_int) (fun _ _ => rfl))) (db_of de_int) (by with_unfolding_all rfl)))))) (dss_one ds_never) dss_nil) (dn_fld G.k_Gain (by decide) (pv 0) (de_var 1 (pv 1)) (dn_fld G.k_Gain (by decide) (pv 0) (de_var 2 (pv 2)) dn_nil))))
theorem k_Gain {P : Program} {w : World} {K : PySem.W.Frag} {mg : Str → Option Value} {base : Heap} (G : Glo K mg) (c_lots_of : CalG false P w K mg base 1 "lots_of" S_lots_of 1) (c_is_tuple : CalG false P w K mg base 1 "is_tuple" S_is_tuple 2) (c_is_integer : CalG false P w K mg base 1 "is_integer" S_is_integer 1) (c_is_within : CalG false P w K mg base 2 "is_within" S_is_within 3)  {f C : Addr} {fd : FuncData} (Fu : L2.Fun K "__init__" "Gain.__init__" st_Gain f fd) (M : Mk K C f) (hm : mg "Gain" = some (.ref C)) (hb : Binds K fd ["self", "n", "worths"] []) (ver : ∀ (J : GJ) (a : Addr) (ds : List D) (q : D → Prop), ds.length = 2 → S_Gain J ds q → w_Gain J (startE N_Gain (.tk a :: ds)) [] fun gs => q (.ins "Gain" gs)) : CalC P w K mg base 3 "Gain" S_Gain 2 :=
  cal_N M hm Fu sc_Gain hb rfl (fun J cd A outer s H E hr => b_Gain G c_lots_of c_is_tuple c_is_integer c_is_within J hr) ver

/-! ### Gain.__eq__: slots 0 self, 1 other -/
abbrev st_Gain_eq : Stmt := inCls 16 1
abbrev N_Gain_eq : List Str := ["self", "other"]
theorem sc_Gain_eq : FnScope N_Gain_eq ["self", "other"] (defScope st_Gain_eq) := ⟨rfl, rfl, rfl, by decide +kernel, rfl, by decide +kernel, by decide +kernel⟩
def w_Gain_eq (J : GJ) : WS := sRet (wAnd (wPr (oIsiC "Gain") (wCons (wB 1) (wCons (wOf (wC (.cls "Gain"))) wNil))) (wAnd (w2 oEq (wOf (wFld "Gain" "n" (wVar 0))) (wOf (wFld "Gain" "n" (wVar 1)))) (w2 oEq (wOf (wFld "Gain" "worths" (wVar 0))) (wOf (wFld "Gain" "worths" (wVar 1))))))
theorem b_Gain_eq {P : Program} {w : World} {K : PySem.W.Frag} {mg : Str → Option Value} {base : Heap} (G : Glo K mg)  (J : GJ) {fa : Addr} {cd : Value} {A : Around} {outer : List Env} {s : Shared} {H : Hp} {E : XK} (hr : Rm false 0 (A.deeper (envOfC "Gain.__eq__" (defScope st_Gain_eq) s.heap.objs.size fa cd))) :
    DSs (cxOf L2.CX0 P w K mg base N_Gain_eq "Gain.__eq__" (defScope st_Gain_eq) fa cd A outer s H E).nox J (defBody st_Gain_eq) (w_Gain_eq J) := by
  have nd : N_Gain_eq.Nodup := sc_Gain_eq.nd
  have u64 := hr.rm.units
  have u65 : (A.deeper (envOfC "Gain.__eq__" (defScope st_Gain_eq) s.heap.objs.size fa cd)).units + 65 < cLine := by have := hr.rm.un; omega
  have u1 : (A.deeper (envOfC "Gain.__eq__" (defScope st_Gain_eq) s.heap.objs.size fa cd)).units + 1 < cLine := by have := hr.rm.un; omega
  exact (dss_one (ds_ret (de_and (de_callB (cd_isiC G.k_Gain) (by rfl) G.b_isinstance PyProof.Rows.boot_isinstance (da_cons (db_var 1 (pv 1)) (da_cons (db_of (de_clsE rfl G.k_Gain)) da_nil))) (de_and (de_cmp (od_eq u64) (db_of (de_fld (cls_fld G.k_Gain (by decide)) (de_var 0 (pv 0)) rfl)) (db_of (de_fld (cls_fld G.k_Gain (by decide)) (de_var 1 (pv 1)) rfl)) (by with_unfolding_all rfl)) (de_one (de_cmp (od_eq u64) (db_of (de_fld (cls_fld G.k_Gain (by decide)) (de_var 0 (pv 0)) rfl)) (db_of (de_fld (cls_fld G.k_Gain (by decide)) (de_var 1 (pv 1)) rfl)) (by with_unfolding_all rfl)))))))
theorem e_Gain {P : Program} {w : World} {K : PySem.W.Frag} {mg : Str → Option Value} {base : Heap} (G : Glo K mg)  {f C : Addr} {fd : FuncData} (Fu : L2.Fun K "__eq__" "Gain.__eq__" st_Gain_eq f fd) (hm : mg "Gain" = some (.ref C)) (he : PySem.W.findIn K (.ref C) "__eq__" = some (some (.ref f))) (hf : PySem.W.isFn K (.ref f) = true) (hb : Binds K fd ["self", "other"] []) (ver : ∀ (J : GJ) (ds : List D) (q : D → Prop), ds.length = 2 → S_Gain_eq J ds q → w_Gain_eq J (startE N_Gain_eq ds) { nx := fun _ => q .non, rt := fun d _ => q d }) : CalE P w K mg base 1 "Gain" S_Gain_eq := by
  obtain ⟨C2, h1, h2⟩ := G.k_Gain
  have e := hm.symm.trans h1
  cases e
  exact ⟨C, f, fd, _, _, hm, h2, he, hf, hb, fn_D Fu sc_Gain_eq (fun J cd A outer s H E hr => b_Gain_eq G  J hr) ver⟩

/-! ### number_of_lot: slots 0 lot, 1 player -/
abbrev st_number_of_lot : Stmt := topS 17
abbrev N_number_of_lot : List Str := ["lot", "player"]
theorem sc_number_of_lot : FnScope N_number_of_lot ["lot"] (defScope st_number_of_lot) := ⟨rfl, rfl, rfl, by decide +kernel, rfl, by decide +kernel, by decide +kernel⟩
def w_number_of_lot (J : GJ) : WS := sRet (wPr oSumA (wCons (wOf (wLC [1] (wIs (wVar 0)) (gN 1) wYes (w2 oIx (wOf (wLst (wCons (wOf (wC (.int 1))) (wCons (wOf (wC (.int 2))) (wCons (wOf (wC (.int 4))) (wCons (wOf (wC (.int 8))) wNil)))))) (wB 1)))) wNil))
theorem b_number_of_lot {g : Bool} {P : Program} {w : World} {K : PySem.W.Frag} {mg : Str → Option Value} {base : Heap} (G : Glo K mg)  (J : GJ) {fa : Addr} {cd : Value} {A : Around} {outer : List Env} {s : Shared} {H : Hp} {E : XK} (hr : Rm g 0 (A.deeper (envOfC "number_of_lot" (defScope st_number_of_lot) s.heap.objs.size fa cd))) :
    DSs (cxOf L2.CX0 P w K mg base N_number_of_lot "number_of_lot" (defScope st_number_of_lot) fa cd A outer s H E).nox J (defBody st_number_of_lot) (w_number_of_lot J) := by
  have nd : N_number_of_lot.Nodup := sc_number_of_lot.nd
  have u64 := hr.rm.units
  have u65 : (A.deeper (envOfC "number_of_lot" (defScope st_number_of_lot) s.heap.objs.size fa cd)).units + 65 < cLine := by have := hr.rm.un; omega
  have u1 : (A.deeper (envOfC "number_of_lot" (defScope st_number_of_lot) s.heap.objs.size fa cd)).units + 1 < cLine := by have := hr.rm.un; omega
  exact (dss_one (ds_ret (de_callB (cd_sumA rfl) (by rfl) G.b_sum PyProof.Rows.boot_sum (da_cons (db_of (de_lc rfl nd (di_seq (de_var 0 (pv 0))) (blkOk_by (own := [("player", 1)]) (by kernel_rfl)) (fun _ _ _ _ _ => (dg_name 1 (L2.pg_name nd rfl (by first | exact .inl rfl | exact .inr rfl)))) (fun _ _ _ _ _ => dts_nil) (fun _ _ _ _ _ => (de_ix od_ix (db_of (de_lst (da_cons (db_of de_int) (da_cons (db_of de_int) (da_cons (db_of de_int) (da_cons (db_of de_int) da_nil)))))) (db_var 1 (pv 1)) (fun _ _ => rfl))))) da_nil))))
theorem c_number_of_lot {g : Bool} {P : Program} {w : World} {K : PySem.W.Frag} {mg : Str → Option Value} {base : Heap} (G : Glo K mg)  {f : Addr} {fd : FuncData} (Fu : L2.Fun K "number_of_lot" "number_of_lot" st_number_of_lot f fd) (hm : mg "number_of_lot" = some (.ref f)) (hb : Binds K fd ["lot"] []) (ver : ∀ (J : GJ) (ds : List D) (q : D → Prop), ds.length = 1 → S_number_of_lot J ds q → w_number_of_lot J (startE N_number_of_lot ds) { nx := fun _ => q .non, rt := fun d _ => q d }) : CalG g P w K mg base 1 "number_of_lot" S_number_of_lot 1 :=
  cal_D Fu sc_number_of_lot hm hb (fun J cd A outer s H E hr => b_number_of_lot G  J hr) ver

/-! ### raw_brings: slots 0 gain, 1 order, 2 found, 3 at, 4 player -/
abbrev st_raw_brings : Stmt := topS 18
abbrev N_raw_brings : List Str := ["gain", "order", "found", "at", "player"]
theorem sc_raw_brings : FnScope N_raw_brings ["gain", "order"] (defScope st_raw_brings) := ⟨rfl, rfl, rfl, by decide +kernel, rfl, by decide +kernel, by decide +kernel⟩
def w_raw_brings (J : GJ) : WS := sSeq (sSet 2 (wNewRep (wLst (wCons (wOf (wC (.int 0))) wNil)) (wFld "Gain" "n" (wVar 0)))) (sSeq (sFor (wEn (wCons (wOf (wVar 1)) wNil)) (gTup 2 (gCons (gN 3) (gCons (gN 4) gNil))) (wSetAt (w2 oSub (wOf (w2 oIx (wOf (wFld "Gain" "worths" (wVar 0))) (wOf (wCall J S_number_of_lot 1 (wCons (wOf (wSl oSl (wB 1) wONone (wOSome (w2 oAdd (wB 3) (wOf (wC (.int 1))))))) wNil))))) (wOf (w2 oIx (wOf (wFld "Gain" "worths" (wVar 0))) (wOf (wCall J S_number_of_lot 1 (wCons (wOf (wSl oSl (wB 1) wONone (wOSome (wVar 3)))) wNil)))))) (gIxL 2 (wVar 4)))) (sRet (wPr oTuple (wCons (wB 2) wNil))))
theorem b_raw_brings {g : Bool} {P : Program} {w : World} {K : PySem.W.Frag} {mg : Str → Option Value} {base : Heap} (G : Glo K mg) (c_number_of_lot : CalG g P w K mg base 1 "number_of_lot" S_number_of_lot 1)  (J : GJ) {fa : Addr} {cd : Value} {A : Around} {outer : List Env} {s : Shared} {H : Hp} {E : XK} (hr : Rm g 1 (A.deeper (envOfC "raw_brings" (defScope st_raw_brings) s.heap.objs.size fa cd))) :
    DSs (cxOf L2.CX0 P w K mg base N_raw_brings "raw_brings" (defScope st_raw_brings) fa cd A outer s H E).nox J (defBody st_raw_brings) (w_raw_brings J) := by
  have nd : N_raw_brings.Nodup := sc_raw_brings.nd
  have u64 := hr.rm.units
  have u65 : (A.deeper (envOfC "raw_brings" (defScope st_raw_brings) s.heap.objs.size fa cd)).units + 65 < cLine := by have := hr.rm.un; omega
  have u1 : (A.deeper (envOfC "raw_brings" (defScope st_raw_brings) s.heap.objs.size fa cd)).units + 1 < cLine := by have := hr.rm.un; omega
  exact (dss_cons (ds_set nd rfl (by first | exact .inl rfl | exact .inr rfl) (dv_rep (de_lst (da_cons (db_of de_int) da_nil)) (de_fld (cls_fld G.k_Gain (by decide)) (de_var 0 (pv 0)) rfl))) (dss_cons (ds_for PassesOwn.never rfl (di_enum (by rfl) G.b_enumerate (da_cons (db_of (de_var 1 (pv 1))) da_nil)) (dg_tup rfl (dgs_cons (dg_name 3 (L2.pg_name nd rfl (by first | exact .inl rfl | exact .inr rfl))) (dgs_cons (dg_name 4 (L2.pg_name nd rfl (by first | exact .inl rfl | exact .inr rfl))) dgs_nil))) (dss_one (ds_asg (de_op od_sub (db_of (de_ix od_ix (db_of (de_fld (cls_fld G.k_Gain (by decide)) (de_var 0 (pv 0)) rfl)) (db_of (de_call c_number_of_lot hr (by decide) (by rfl) (da_cons (db_of (de_sl od_sl (db_var 1 (pv 1)) do_none (do_some (de_op od_add (db_var 3 (pv 3)) (db_of de_int))))) da_nil))) (fun _ _ => rfl))) (db_of (de_ix od_ix (db_of (de_fld (cls_fld G.k_Gain (by decide)) (de_var 0 (pv 0)) rfl)) (db_of (de_call c_number_of_lot hr (by decide) (by rfl) (da_cons (db_of (de_sl od_sl (db_var 1 (pv 1)) do_none (do_some (de_var 3 (pv 3))))) da_nil))) (fun _ _ => rfl)))) (dg_ixL (pv 2) (de_var 4 (pv 4)))))) (dss_one (ds_ret (de_callTy cd_tuple (by rfl) G.b_tuple PyProof.Rows.boot_tuple (da_cons (db_var 2 (pv 2)) da_nil))))))
theorem c_raw_brings {g : Bool} {P : Program} {w : World} {K : PySem.W.Frag} {mg : Str → Option Value} {base : Heap} (G : Glo K mg) (c_number_of_lot : CalG g P w K mg base 1 "number_of_lot" S_number_of_lot 1)  {f : Addr} {fd : FuncData} (Fu : L2.Fun K "raw_brings" "raw_brings" st_raw_brings f fd) (hm : mg "raw_brings" = some (.ref f)) (hb : Binds K fd ["gain", "order"] []) (ver : ∀ (J : GJ) (ds : List D) (q : D → Prop), ds.length = 2 → S_raw_brings J ds q → w_raw_brings J (startE N_raw_brings ds) { nx := fun _ => q .non, rt := fun d _ => q d }) : CalG g P w K mg base 2 "raw_brings" S_raw_brings 2 :=
  cal_D Fu sc_raw_brings hm hb (fun J cd A outer s H E hr => b_raw_brings G c_number_of_lot J hr) ver

/-! ### brings: slots 0 gain, 1 order -/
abbrev st_brings : Stmt := topS 19
abbrev N_brings : List Str := ["gain", "order"]
theorem sc_brings : FnScope N_brings ["gain", "order"] (defScope st_brings) := ⟨rfl, rfl, rfl, by decide +kernel, rfl, by decide +kernel, by decide +kernel⟩
def w_brings (J : GJ) : WS := sSeq (sIf (wTNot (wTB (wCall J S_is_order 2 (wCons (wOf (wVar 1)) (wCons (wOf (wFld "Gain" "n" (wVar 0))) wNil))))) sNever sNil) (sRet (wCall J S_raw_brings 2 (wCons (wOf (wVar 0)) (wCons (wOf (wVar 1)) wNil))))
theorem b_brings {g : Bool} {P : Program} {w : World} {K : PySem.W.Frag} {mg : Str → Option Value} {base : Heap} (G : Glo K mg) (c_is_order : CalG g P w K mg base 3 "is_order" S_is_order 2) (c_raw_brings : CalG g P w K mg base 2 "raw_brings" S_raw_brings 2)  (J : GJ) {fa : Addr} {cd : Value} {A : Around} {outer : List Env} {s : Shared} {H : Hp} {E : XK} (hr : Rm g 3 (A.deeper (envOfC "brings" (defScope st_brings) s.heap.objs.size fa cd))) :
    DSs (cxOf L2.CX0 P w K mg base N_brings "brings" (defScope st_brings) fa cd A outer s H E).nox J (defBody st_brings) (w_brings J) := by
  have nd : N_brings.Nodup := sc_brings.nd
  have u64 := hr.rm.units
  have u65 : (A.deeper (envOfC "brings" (defScope st_brings) s.heap.objs.size fa cd)).units + 65 < cLine := by have := hr.rm.un; omega
  have u1 : (A.deeper (envOfC "brings" (defScope st_brings) s.heap.objs.size fa cd)).units + 1 < cLine := by have := hr.rm.un; omega
  exact (dss_cons (ds_if (dt_not (dt_val (de_call c_is_order hr (by decide) (by rfl) (da_cons (db_of (de_var 1 (pv 1))) (da_cons (db_of (de_fld (cls_fld G.k_Gain (by decide)) (de_var 0 (pv 0)) rfl)) da_nil))))) (dss_one ds_never) dss_nil) (dss_one (ds_ret (de_call c_raw_brings hr (by decide) (by rfl) (da_cons (db_of (de_var 0 (pv 0))) (da_cons (db_of (de_var 1 (pv 1))) da_nil))))))
theorem c_brings {g : Bool} {P : Program} {w : World} {K : PySem.W.Frag} {mg : Str → Option Value} {base : Heap} (G : Glo K mg) (c_is_order : CalG g P w K mg base 3 "is_order" S_is_order 2) (c_raw_brings : CalG g P w K mg base 2 "raw_brings" S_raw_brings 2)  {f : Addr} {fd : FuncData} (Fu : L2.Fun K "brings" "brings" st_brings f fd) (hm : mg "brings" = some (.ref f)) (hb : Binds K fd ["gain", "order"] []) (ver : ∀ (J : GJ) (ds : List D) (q : D → Prop), ds.length = 2 → S_brings J ds q → w_brings J (startE N_brings ds) { nx := fun _ => q .non, rt := fun d _ => q d }) : CalG g P w K mg base 4 "brings" S_brings 2 :=
  cal_D Fu sc_brings hm hb (fun J cd A outer s H E hr => b_brings G c_is_order c_raw_brings J hr) ver

def wx_brings (J : GJ) : WS := sSeq (sIf (wTNot (wTB (wCall J S_is_order 2 (wCons (wOf (wVar 1)) (wCons (wOf (wFld "Gain" "n" (wVar 0))) wNil))))) (sRaise "NoOrder") sNil) (sRet (wCall J S_raw_brings 2 (wCons (wOf (wVar 0)) (wCons (wOf (wVar 1)) wNil))))
theorem bx_brings {g : Bool} {P : Program} {w : World} {K : PySem.W.Frag} {mg : Str → Option Value} {base : Heap} (G : Glo K mg) (c_is_order : CalG g P w K mg base 3 "is_order" S_is_order 2) (c_raw_brings : CalG g P w K mg base 2 "raw_brings" S_raw_brings 2) (x_NoOrder : Exc0 P w K mg base 1 "NoOrder") (J : GJ) {fa : Addr} {cd : Value} {A : Around} {outer : List Env} {s : Shared} {H : Hp} {E : XK} (hr : Rm g 3 (A.deeper (envOfC "brings" (defScope st_brings) s.heap.objs.size fa cd))) :
    DXs (cxOf (L2.CX P w) P w K mg base N_brings "brings" (defScope st_brings) fa cd A outer s H E) J (fun cls d _ H => E cls d H) (defBody st_brings) (wx_brings J) := by
  have nd : N_brings.Nodup := sc_brings.nd
  have tk : Takes (cxOf (L2.CX P w) P w K mg base N_brings "brings" (defScope st_brings) fa cd A outer s H E) (fun cls d _ H => E cls d H) := takes_of rfl rfl rfl rfl
  have u64 := hr.rm.units
  have u65 : (A.deeper (envOfC "brings" (defScope st_brings) s.heap.objs.size fa cd)).units + 65 < cLine := by have := hr.rm.un; omega
  have u1 : (A.deeper (envOfC "brings" (defScope st_brings) s.heap.objs.size fa cd)).units + 1 < cLine := by have := hr.rm.un; omega
  exact (dxs_cons (dx_if (dt_not (dt_val (de_call c_is_order hr (by decide) (by rfl) (da_cons (db_of (de_var 1 (pv 1))) (da_cons (db_of (de_fld (cls_fld G.k_Gain (by decide)) (de_var 0 (pv 0)) rfl)) da_nil))))) (dxs_one (dx_raise0 x_NoOrder hr (by decide) rfl tk (by rfl))) dxs_nil) (dxs_one (dx_of (ds_ret (de_call c_raw_brings hr (by decide) (by rfl) (da_cons (db_of (de_var 0 (pv 0))) (da_cons (db_of (de_var 1 (pv 1))) da_nil)))))))
theorem cx_brings {g : Bool} {P : Program} {w : World} {K : PySem.W.Frag} {mg : Str → Option Value} {base : Heap} (G : Glo K mg) (c_is_order : CalG g P w K mg base 3 "is_order" S_is_order 2) (c_raw_brings : CalG g P w K mg base 2 "raw_brings" S_raw_brings 2) (x_NoOrder : Exc0 P w K mg base 1 "NoOrder") {f : Addr} {fd : FuncData} (Fu : L2.Fun K "brings" "brings" st_brings f fd) (hm : mg "brings" = some (.ref f)) (hb : Binds K fd ["gain", "order"] []) (ver : ∀ (J : GJ) (ds : List D) (q : D → Prop) (xq : Str → List (Str × D) → Prop), ds.length = 2 → SX_brings J ds q xq → wx_brings J (startE N_brings ds) { nx := fun _ => q .non, rt := fun d _ => q d, rs := fun c fs _ => xq c fs }) : CalX g P w K mg base 4 "brings" SX_brings 2 :=
  cal_X Fu sc_brings hm hb (fun J cd A outer s H E hr => bx_brings G c_is_order c_raw_brings x_NoOrder J hr) ver

/-! ### shapley: slots 0 gain, 1 orders, 2 sums, 3 order, 4 one, 5 its -/
abbrev st_shapley : Stmt := topS 20
abbrev N_shapley : List Str := ["gain", "orders", "sums", "order", "one", "its"]
theorem sc_shapley : FnScope N_shapley ["gain"] (defScope st_shapley) := ⟨rfl, rfl, rfl, by decide +kernel, rfl, by decide +kernel, by decide +kernel⟩
def w_shapley (J : GJ) : WS := sSeq (sSet 1 (wVal (wCall J S_orders_of 1 (wCons (wOf (wLRg (wFld "Gain" "n" (wVar 0)))) wNil)))) (sSeq (sSet 2 (wVal (w2 oMulA (wOf (wLst (wCons (wOf (wC (.int 0))) wNil))) (wOf (wFld "Gain" "n" (wVar 0)))))) (sSeq (sFor (wIs (wVar 1)) (gN 3) (sSet 2 (wVal (wLC [4, 5] (wZp (wCons (wOf (wVar 2)) (wCons (wOf (wCall J S_raw_brings 2 (wCons (wOf (wVar 0)) (wCons (wOf (wVar 3)) wNil)))) wNil))) (gTup 2 (gCons (gN 4) (gCons (gN 5) gNil))) wYes (w2 oAdd (wB 4) (wB 5)))))) (sRet (wPr oTuple (wCons (wOf (wLC [4] (wIs (wVar 2)) (gN 4) wYes (wCall J S_lowest 2 (wCons (wOf (wVar 4)) (wCons (wOf (wPr oLen (wCons (wB 1) wNil))) wNil))))) wNil)))))
theorem b_shapley {g : Bool} {P : Program} {w : World} {K : PySem.W.Frag} {mg : Str → Option Value} {base : Heap} (G : Glo K mg) (c_orders_of : CalG g P w K mg base 1 "orders_of" S_orders_of 1) (c_raw_brings : CalG g P w K mg base 2 "raw_brings" S_raw_brings 2) (c_lowest : CalG g P w K mg base 2 "lowest" S_lowest 2)  (J : GJ) {fa : Addr} {cd : Value} {A : Around} {outer : List Env} {s : Shared} {H : Hp} {E : XK} (hr : Rm g 2 (A.deeper (envOfC "shapley" (defScope st_shapley) s.heap.objs.size fa cd))) :
    DSs (cxOf L2.CX0 P w K mg base N_shapley "shapley" (defScope st_shapley) fa cd A outer s H E).nox J (defBody st_shapley) (w_shapley J) := by
  have nd : N_shapley.Nodup := sc_shapley.nd
  have u64 := hr.rm.units
  have u65 : (A.deeper (envOfC "shapley" (defScope st_shapley) s.heap.objs.size fa cd)).units + 65 < cLine := by have := hr.rm.un; omega
  have u1 : (A.deeper (envOfC "shapley" (defScope st_shapley) s.heap.objs.size fa cd)).units + 1 < cLine := by have := hr.rm.un; omega
  exact (dss_cons (ds_set nd rfl (by first | exact .inl rfl | exact .inr rfl) (dv_of (de_call c_orders_of hr (by decide) (by rfl) (da_cons (db_of (de_lrg rfl rfl G.b_list rfl G.b_range (de_fld (cls_fld G.k_Gain (by decide)) (de_var 0 (pv 0)) rfl))) da_nil)))) (dss_cons (ds_set nd rfl (by first | exact .inl rfl | exact .inr rfl) (dv_of (de_op od_mulA (db_of (de_lst (da_cons (db_of de_int) da_nil))) (db_of (de_fld (cls_fld G.k_Gain (by decide)) (de_var 0 (pv 0)) rfl))))) (dss_cons (ds_for PassesOwn.never rfl (di_seq (de_var 1 (pv 1))) (dg_name 3 (L2.pg_name nd rfl (by first | exact .inl rfl | exact .inr rfl))) (dss_one (ds_setLc rfl nd rfl rfl rfl (di_zip (by rfl) G.b_zip (da_cons (db_of (de_var 2 (pv 2))) (da_cons (db_of (de_call c_raw_brings hr (by decide) (by rfl) (da_cons (db_of (de_var 0 (pv 0))) (da_cons (db_of (de_var 3 (pv 3))) da_nil)))) da_nil))) (blkOk_by (own := [("one", 4), ("its", 5)]) (by kernel_rfl)) (fun _ _ _ _ _ => (dg_tup rfl (dgs_cons (dg_name 4 (L2.pg_name nd rfl (by first | exact .inl rfl | exact .inr rfl))) (dgs_cons (dg_name 5 (L2.pg_name nd rfl (by first | exact .inl rfl | exact .inr rfl))) dgs_nil)))) (fun _ _ _ _ _ => dts_nil) (fun _ _ _ _ _ => (de_op od_add (db_var 4 (pv 4)) (db_var 5 (pv 5))))))) (dss_one (ds_ret (de_callTy cd_tuple (by rfl) G.b_tuple PyProof.Rows.boot_tuple (da_cons (db_of (de_lc rfl nd (di_seq (de_var 2 (pv 2))) (blkOk_by (own := [("one", 4)]) (by kernel_rfl)) (fun _ _ _ _ _ => (dg_name 4 (L2.pg_name nd rfl (by first | exact .inl rfl | exact .inr rfl)))) (fun _ _ _ _ _ => dts_nil) (fun _ _ _ _ _ => (de_call c_lowest hr (by decide) (by rfl) (da_cons (db_of (de_var 4 (pv 4))) (da_cons (db_of (de_callB cd_len (by rfl) G.b_len PySem.boot_len (da_cons (db_var 1 (pv 1)) da_nil))) da_nil)))))) da_nil)))))))
theorem c_shapley {g : Bool} {P : Program} {w : World} {K : PySem.W.Frag} {mg : Str → Option Value} {base : Heap} (G : Glo K mg) (c_orders_of : CalG g P w K mg base 1 "orders_of" S_orders_of 1) (c_raw_brings : CalG g P w K mg base 2 "raw_brings" S_raw_brings 2) (c_lowest : CalG g P w K mg base 2 "lowest" S_lowest 2)  {f : Addr} {fd : FuncData} (Fu : L2.Fun K "shapley" "shapley" st_shapley f fd) (hm : mg "shapley" = some (.ref f)) (hb : Binds K fd ["gain"] []) (ver : ∀ (J : GJ) (ds : List D) (q : D → Prop), ds.length = 1 → S_shapley J ds q → w_shapley J (startE N_shapley ds) { nx := fun _ => q .non, rt := fun d _ => q d }) : CalG g P w K mg base 3 "shapley" S_shapley 1 :=
  cal_D Fu sc_shapley hm hb (fun J cd A outer s H E hr => b_shapley G c_orders_of c_raw_brings c_lowest J hr) ver

/-! ### dividends: slots 0 gain, 1 lots, 2 found, 3 k, 4 lot, 5 inner, 6 other, 7 player -/
abbrev st_dividends : Stmt := topS 21
abbrev N_dividends : List Str := ["gain", "lots", "found", "k", "lot", "inner", "other", "player"]
theorem sc_dividends : FnScope N_dividends ["gain"] (defScope st_dividends) := ⟨rfl, rfl, rfl, by decide +kernel, rfl, by decide +kernel, by decide +kernel⟩
def w_dividends (J : GJ) : WS := sSeq (sPar 1 2 (wVal (wCall J S_lots_of 1 (wCons (wOf (wFld "Gain" "n" (wVar 0))) wNil))) (wNewL wNil)) (sSeq (sFor (wEn (wCons (wOf (wVar 1)) wNil)) (gTup 2 (gCons (gN 3) (gCons (gN 4) gNil))) (sSeq (sSet 5 (wVal (wLC [6] (wR1 (wCons (wOf (wVar 3)) wNil)) (gN 6) (wTB (wPr oAll (wCons (wOf (wLC [7] (wIs (w2 oIx (wB 1) (wB 6))) (gN 7) wYes (w2 oIn (wB 7) (wB 4)))) wNil))) (w2 oIx (wB 2) (wB 6))))) (sDrop (wApp 2 (w2 oSub (wOf (w2 oIx (wOf (wFld "Gain" "worths" (wVar 0))) (wB 3))) (wOf (wPr oSumA (wCons (wB 5) wNil)))))))) (sRet (wPr oTuple (wCons (wB 2) wNil))))
theorem b_dividends {g : Bool} {P : Program} {w : World} {K : PySem.W.Frag} {mg : Str → Option Value} {base : Heap} (G : Glo K mg) (c_lots_of : CalG g P w K mg base 1 "lots_of" S_lots_of 1)  (J : GJ) {fa : Addr} {cd : Value} {A : Around} {outer : List Env} {s : Shared} {H : Hp} {E : XK} (hr : Rm g 1 (A.deeper (envOfC "dividends" (defScope st_dividends) s.heap.objs.size fa cd))) :
    DSs (cxOf L2.CX0 P w K mg base N_dividends "dividends" (defScope st_dividends) fa cd A outer s H E).nox J (defBody st_dividends) (w_dividends J) := by
  have nd : N_dividends.Nodup := sc_dividends.nd
  have u64 := hr.rm.units
  have u65 : (A.deeper (envOfC "dividends" (defScope st_dividends) s.heap.objs.size fa cd)).units + 65 < cLine := by have := hr.rm.un; omega
  have u1 : (A.deeper (envOfC "dividends" (defScope st_dividends) s.heap.objs.size fa cd)).units + 1 < cLine := by have := hr.rm.un; omega
  exact (dss_cons (ds_parT rfl nd (by decide) (L2.pg_name nd rfl (by first | exact .inl rfl | exact .inr rfl)) (L2.pg_name nd rfl (by first | exact .inl rfl | exact .inr rfl)) (dv_of (de_call c_lots_of hr (by decide) (by rfl) (da_cons (db_of (de_fld (cls_fld G.k_Gain (by decide)) (de_var 0 (pv 0)) rfl)) da_nil))) (dv_lst da_nil)) (dss_cons (ds_for PassesOwn.never rfl (di_enum (by rfl) G.b_enumerate (da_cons (db_of (de_var 1 (pv 1))) da_nil)) (dg_tup rfl (dgs_cons (dg_name 3 (L2.pg_name nd rfl (by first | exact .inl rfl | exact .inr rfl))) (dgs_cons (dg_name 4 (L2.pg_name nd rfl (by first | exact .inl rfl | exact .inr rfl))) dgs_nil))) (dss_cons (ds_setLc rfl nd rfl rfl rfl (di_r1 (by rfl) G.b_range (da_cons (db_of (de_var 3 (pv 3))) da_nil)) (blkOk_by (own := [("other", 6)]) (by kernel_rfl)) (fun _ _ _ _ _ => (dg_name 6 (L2.pg_name nd rfl (by first | exact .inl rfl | exact .inr rfl)))) (fun _ _ _ _ _ => dts_one (dt_val (de_callB (cd_all rfl) (by rfl) G.b_all PyProof.Rows.boot_all (da_cons (db_of (de_lc rfl nd (di_seq (de_ix od_ix (db_var 1 (pv 1)) (db_var 6 (pv 6)) (fun _ _ => rfl))) (blkOk_by (own := [("player", 7)]) (by kernel_rfl)) (fun _ _ _ _ _ => (dg_name 7 (L2.pg_name nd rfl (by first | exact .inl rfl | exact .inr rfl)))) (fun _ _ _ _ _ => dts_nil) (fun _ _ _ _ _ => (de_cmp (od_in u65) (db_var 7 (pv 7)) (db_var 4 (pv 4)) (by with_unfolding_all rfl))))) da_nil)))) (fun _ _ _ _ _ => (de_ix od_ix (db_var 2 (pv 2)) (db_var 6 (pv 6)) (fun _ _ => rfl)))) (dss_one (ds_expr (de_app (pv 2) (de_op od_sub (db_of (de_ix od_ix (db_of (de_fld (cls_fld G.k_Gain (by decide)) (de_var 0 (pv 0)) rfl)) (db_var 3 (pv 3)) (fun _ _ => rfl))) (db_of (de_callB (cd_sumA rfl) (by rfl) G.b_sum PyProof.Rows.boot_sum (da_cons (db_var 5 (pv 5)) da_nil))))))))) (dss_one (ds_ret (de_callTy cd_tuple (by rfl) G.b_tuple PyProof.Rows.boot_tuple (da_cons (db_var 2 (pv 2)) da_nil))))))
theorem c_dividends {g : Bool} {P : Program} {w : World} {K : PySem.W.Frag} {mg : Str → Option Value} {base : Heap} (G : Glo K mg) (c_lots_of : CalG g P w K mg base 1 "lots_of" S_lots_of 1)  {f : Addr} {fd : FuncData} (Fu : L2.Fun K "dividends" "dividends" st_dividends f fd) (hm : mg "dividends" = some (.ref f)) (hb : Binds K fd ["gain"] []) (ver : ∀ (J : GJ) (ds : List D) (q : D → Prop), ds.length = 1 → S_dividends J ds q → w_dividends J (startE N_dividends ds) { nx := fun _ => q .non, rt := fun d _ => q d }) : CalG g P w K mg base 2 "dividends" S_dividends 1 :=
  cal_D Fu sc_dividends hm hb (fun J cd A outer s H E hr => b_dividends G c_lots_of J hr) ver

/-! ### is_rising: slots 0 gain, 1 lots, 2 one, 3 other, 4 both, 5 player, 6 common, 7 own -/
abbrev st_is_rising : Stmt := topS 22
abbrev N_is_rising : List Str := ["gain", "lots", "one", "other", "both", "player", "common", "own"]
theorem sc_is_rising : FnScope N_is_rising ["gain"] (defScope st_is_rising) := ⟨rfl, rfl, rfl, by decide +kernel, rfl, by decide +kernel, by decide +kernel⟩
def w_is_rising (J : GJ) : WS := sSeq (sSet 1 (wVal (wCall J S_lots_of 1 (wCons (wOf (wFld "Gain" "n" (wVar 0))) wNil)))) (sSeq (sFor (wIs (wVar 1)) (gN 2) (sFor (wIs (wVar 1)) (gN 3) (sSeq (sSet 4 (wVal (wCall J S_number_of_lot 1 (wCons (wOf (wLC [5] (wR1 (wCons (wOf (wFld "Gain" "n" (wVar 0))) wNil)) (gN 5) (wTOr (wTB (w2 oIn (wB 5) (wB 2))) (wTB (w2 oIn (wB 5) (wB 3)))) (wVar 5))) wNil)))) (sSeq (sSet 6 (wVal (wCall J S_number_of_lot 1 (wCons (wOf (wLC [5] (wIs (wVar 2)) (gN 5) (wTB (w2 oIn (wB 5) (wB 3))) (wVar 5))) wNil)))) (sSeq (sSet 7 (wVal (w2 oAdd (wOf (w2 oIx (wOf (wFld "Gain" "worths" (wVar 0))) (wOf (wCall J S_number_of_lot 1 (wCons (wOf (wVar 2)) wNil))))) (wOf (w2 oIx (wOf (wFld "Gain" "worths" (wVar 0))) (wOf (wCall J S_number_of_lot 1 (wCons (wOf (wVar 3)) wNil)))))))) (sIf (wTB (w2 oGt (wB 7) (wOf (w2 oAdd (wOf (w2 oIx (wOf (wFld "Gain" "worths" (wVar 0))) (wB 4))) (wOf (w2 oIx (wOf (wFld "Gain" "worths" (wVar 0))) (wB 6))))))) (sRet (wC (.bl false))) sNil)))))) (sRet (wC (.bl true))))
theorem b_is_rising {g : Bool} {P : Program} {w : World} {K : PySem.W.Frag} {mg : Str → Option Value} {base : Heap} (G : Glo K mg) (c_lots_of : CalG g P w K mg base 1 "lots_of" S_lots_of 1) (c_number_of_lot : CalG g P w K mg base 1 "number_of_lot" S_number_of_lot 1)  (J : GJ) {fa : Addr} {cd : Value} {A : Around} {outer : List Env} {s : Shared} {H : Hp} {E : XK} (hr : Rm g 1 (A.deeper (envOfC "is_rising" (defScope st_is_rising) s.heap.objs.size fa cd))) :
    DSs (cxOf L2.CX0 P w K mg base N_is_rising "is_rising" (defScope st_is_rising) fa cd A outer s H E).nox J (defBody st_is_rising) (w_is_rising J) := by
  have nd : N_is_rising.Nodup := sc_is_rising.nd
  have u64 := hr.rm.units
  have u65 : (A.deeper (envOfC "is_rising" (defScope st_is_rising) s.heap.objs.size fa cd)).units + 65 < cLine := by have := hr.rm.un; omega
  have u1 : (A.deeper (envOfC "is_rising" (defScope st_is_rising) s.heap.objs.size fa cd)).units + 1 < cLine := by have := hr.rm.un; omega
  exact (dss_cons (ds_set nd rfl (by first | exact .inl rfl | exact .inr rfl) (dv_of (de_call c_lots_of hr (by decide) (by rfl) (da_cons (db_of (de_fld (cls_fld G.k_Gain (by decide)) (de_var 0 (pv 0)) rfl)) da_nil)))) (dss_cons (ds_for PassesOwn.never rfl (di_seq (de_var 1 (pv 1))) (dg_name 2 (L2.pg_name nd rfl (by first | exact .inl rfl | exact .inr rfl))) (dss_one (ds_for PassesOwn.never rfl (di_seq (de_var 1 (pv 1))) (dg_name 3 (L2.pg_name nd rfl (by first | exact .inl rfl | exact .inr rfl))) (dss_cons (ds_set nd rfl (by first | exact .inl rfl | exact .inr rfl) (dv_of (de_call c_number_of_lot hr (by decide) (by rfl) (da_cons (db_of (de_lc rfl nd (di_r1 (by rfl) G.b_range (da_cons (db_of (de_fld (cls_fld G.k_Gain (by decide)) (de_var 0 (pv 0)) rfl)) da_nil)) (blkOk_by (own := [("player", 5)]) (by kernel_rfl)) (fun _ _ _ _ _ => (dg_name 5 (L2.pg_name nd rfl (by first | exact .inl rfl | exact .inr rfl)))) (fun _ _ _ _ _ => dts_one (dt_of (dw_or (dt_cmp (od_in u65) (db_var 5 (pv 5)) (db_var 2 (pv 2)) (by with_unfolding_all rfl)) (dw_or1 (dt_cmp (od_in u65) (db_var 5 (pv 5)) (db_var 3 (pv 3)) (by with_unfolding_all rfl)))))) (fun _ _ _ _ _ => (de_var 5 (pv 5))))) da_nil)))) (dss_cons (ds_set nd rfl (by first | exact .inl rfl | exact .inr rfl) (dv_of (de_call c_number_of_lot hr (by decide) (by rfl) (da_cons (db_of (de_lc rfl nd (di_seq (de_var 2 (pv 2))) (blkOk_by (own := [("player", 5)]) (by kernel_rfl)) (fun _ _ _ _ _ => (dg_name 5 (L2.pg_name nd rfl (by first | exact .inl rfl | exact .inr rfl)))) (fun _ _ _ _ _ => dts_one (dt_cmp (od_in u65) (db_var 5 (pv 5)) (db_var 3 (pv 3)) (by with_unfolding_all rfl))) (fun _ _ _ _ _ => (de_var 5 (pv 5))))) da_nil)))) (dss_cons (ds_set nd rfl (by first | exact .inl rfl | exact .inr rfl) (dv_of (de_op od_add (db_of (de_ix od_ix (db_of (de_fld (cls_fld G.k_Gain (by decide)) (de_var 0 (pv 0)) rfl)) (db_of (de_call c_number_of_lot hr (by decide) (by rfl) (da_cons (db_of (de_var 2 (pv 2))) da_nil))) (fun _ _ => rfl))) (db_of (de_ix od_ix (db_of (de_fld (cls_fld G.k_Gain (by decide)) (de_var 0 (pv 0)) rfl)) (db_of (de_call c_number_of_lot hr (by decide) (by rfl) (da_cons (db_of (de_var 3 (pv 3))) da_nil))) (fun _ _ => rfl)))))) (dss_one (ds_if (dt_cmp od_gt (db_var 7 (pv 7)) (db_of (de_op od_add (db_of (de_ix od_ix (db_of (de_fld (cls_fld G.k_Gain (by decide)) (de_var 0 (pv 0)) rfl)) (db_var 4 (pv 4)) (fun _ _ => rfl))) (db_of (de_ix od_ix (db_of (de_fld (cls_fld G.k_Gain (by decide)) (de_var 0 (pv 0)) rfl)) (db_var 6 (pv 6)) (fun _ _ => rfl))))) (by with_unfolding_all rfl)) (dss_one (ds_ret de_bl)) dss_nil)))))))) (dss_one (ds_ret de_bl))))
theorem c_is_rising {g : Bool} {P : Program} {w : World} {K : PySem.W.Frag} {mg : Str → Option Value} {base : Heap} (G : Glo K mg) (c_lots_of : CalG g P w K mg base 1 "lots_of" S_lots_of 1) (c_number_of_lot : CalG g P w K mg base 1 "number_of_lot" S_number_of_lot 1)  {f : Addr} {fd : FuncData} (Fu : L2.Fun K "is_rising" "is_rising" st_is_rising f fd) (hm : mg "is_rising" = some (.ref f)) (hb : Binds K fd ["gain"] []) (ver : ∀ (J : GJ) (ds : List D) (q : D → Prop), ds.length = 1 → S_is_rising J ds q → w_is_rising J (startE N_is_rising ds) { nx := fun _ => q .non, rt := fun d _ => q d }) : CalG g P w K mg base 2 "is_rising" S_is_rising 1 :=
  cal_D Fu sc_is_rising hm hb (fun J cd A outer s H E hr => b_is_rising G c_lots_of c_number_of_lot J hr) ver

/-! ### swings: slots 0 gain, 1 lots, 2 found, 3 player, 4 without, 5 lot, 6 more -/
abbrev st_swings : Stmt := topS 23
abbrev N_swings : List Str := ["gain", "lots", "found", "player", "without", "lot", "more"]
theorem sc_swings : FnScope N_swings ["gain"] (defScope st_swings) := ⟨rfl, rfl, rfl, by decide +kernel, rfl, by decide +kernel, by decide +kernel⟩
def w_swings (J : GJ) : WS := sSeq (sPar 1 2 (wVal (wCall J S_lots_of 1 (wCons (wOf (wFld "Gain" "n" (wVar 0))) wNil))) (wNewL wNil)) (sSeq (sFor (wR1 (wCons (wOf (wFld "Gain" "n" (wVar 0))) wNil)) (gN 3) (sSeq (sSet 4 (wVal (wLC [5] (wIs (wVar 1)) (gN 5) (wTB (w2 oNotIn (wB 3) (wB 5))) (wVar 5)))) (sSeq (sSet 6 (wVal (wLC [5] (wIs (wVar 4)) (gN 5) (wTB (w2 oGt (wOf (w2 oIx (wOf (wFld "Gain" "worths" (wVar 0))) (wOf (wCall J S_number_of_lot 1 (wCons (wOf (w2 oAdd (wB 5) (wOf (wTup (wCons (wOf (wVar 3)) wNil))))) wNil))))) (wOf (w2 oIx (wOf (wFld "Gain" "worths" (wVar 0))) (wOf (wCall J S_number_of_lot 1 (wCons (wOf (wVar 5)) wNil))))))) (wVar 5)))) (sDrop (wApp 2 (wPr oLen (wCons (wB 6) wNil))))))) (sRet (wPr oTuple (wCons (wB 2) wNil))))
theorem b_swings {g : Bool} {P : Program} {w : World} {K : PySem.W.Frag} {mg : Str → Option Value} {base : Heap} (G : Glo K mg) (c_lots_of : CalG g P w K mg base 1 "lots_of" S_lots_of 1) (c_number_of_lot : CalG g P w K mg base 1 "number_of_lot" S_number_of_lot 1)  (J : GJ) {fa : Addr} {cd : Value} {A : Around} {outer : List Env} {s : Shared} {H : Hp} {E : XK} (hr : Rm g 1 (A.deeper (envOfC "swings" (defScope st_swings) s.heap.objs.size fa cd))) :
    DSs (cxOf L2.CX0 P w K mg base N_swings "swings" (defScope st_swings) fa cd A outer s H E).nox J (defBody st_swings) (w_swings J) := by
  have nd : N_swings.Nodup := sc_swings.nd
  have u64 := hr.rm.units
  have u65 : (A.deeper (envOfC "swings" (defScope st_swings) s.heap.objs.size fa cd)).units + 65 < cLine := by have := hr.rm.un; omega
  have u1 : (A.deeper (envOfC "swings" (defScope st_swings) s.heap.objs.size fa cd)).units + 1 < cLine := by have := hr.rm.un; omega
  exact (dss_cons (ds_par rfl nd rfl rfl (by decide) rfl rfl (dv_of (de_call c_lots_of hr (by decide) (by rfl) (da_cons (db_of (de_fld (cls_fld G.k_Gain (by decide)) (de_var 0 (pv 0)) rfl)) da_nil))) (dv_lst da_nil) rfl) (dss_cons (ds_for PassesOwn.never rfl (di_r1 (by rfl) G.b_range (da_cons (db_of (de_fld (cls_fld G.k_Gain (by decide)) (de_var 0 (pv 0)) rfl)) da_nil)) (dg_name 3 (L2.pg_name nd rfl (by first | exact .inl rfl | exact .inr rfl))) (dss_cons (ds_setLc rfl nd rfl rfl rfl (di_seq (de_var 1 (pv 1))) (blkOk_by (own := [("lot", 5)]) (by kernel_rfl)) (fun _ _ _ _ _ => (dg_name 5 (L2.pg_name nd rfl (by first | exact .inl rfl | exact .inr rfl)))) (fun _ _ _ _ _ => dts_one (dt_cmp (od_notIn u65) (db_var 3 (pv 3)) (db_var 5 (pv 5)) (by with_unfolding_all rfl))) (fun _ _ _ _ _ => (de_var 5 (pv 5)))) (dss_cons (ds_setLc rfl nd rfl rfl rfl (di_seq (de_var 4 (pv 4))) (blkOk_by (own := [("lot", 5)]) (by kernel_rfl)) (fun _ _ _ _ _ => (dg_name 5 (L2.pg_name nd rfl (by first | exact .inl rfl | exact .inr rfl)))) (fun _ _ _ _ _ => dts_one (dt_cmp od_gt (db_of (de_ix od_ix (db_of (de_fld (cls_fld G.k_Gain (by decide)) (de_var 0 (pv 0)) rfl)) (db_of (de_call c_number_of_lot hr (by decide) (by rfl) (da_cons (db_of (de_op od_add (db_var 5 (pv 5)) (db_of (de_tup (da_cons (db_of (de_var 3 (pv 3))) da_nil))))) da_nil))) (fun _ _ => rfl))) (db_of (de_ix od_ix (db_of (de_fld (cls_fld G.k_Gain (by decide)) (de_var 0 (pv 0)) rfl)) (db_of (de_call c_number_of_lot hr (by decide) (by rfl) (da_cons (db_of (de_var 5 (pv 5))) da_nil))) (fun _ _ => rfl))) (by with_unfolding_all rfl))) (fun _ _ _ _ _ => (de_var 5 (pv 5)))) (dss_one (ds_expr (de_app (pv 2) (de_callB cd_len (by rfl) G.b_len PySem.boot_len (da_cons (db_var 6 (pv 6)) da_nil)))))))) (dss_one (ds_ret (de_callTy cd_tuple (by rfl) G.b_tuple PyProof.Rows.boot_tuple (da_cons (db_var 2 (pv 2)) da_nil))))))
theorem c_swings {g : Bool} {P : Program} {w : World} {K : PySem.W.Frag} {mg : Str → Option Value} {base : Heap} (G : Glo K mg) (c_lots_of : CalG g P w K mg base 1 "lots_of" S_lots_of 1) (c_number_of_lot : CalG g P w K mg base 1 "number_of_lot" S_number_of_lot 1)  {f : Addr} {fd : FuncData} (Fu : L2.Fun K "swings" "swings" st_swings f fd) (hm : mg "swings" = some (.ref f)) (hb : Binds K fd ["gain"] []) (ver : ∀ (J : GJ) (ds : List D) (q : D → Prop), ds.length = 1 → S_swings J ds q → w_swings J (startE N_swings ds) { nx := fun _ => q .non, rt := fun d _ => q d }) : CalG g P w K mg base 2 "swings" S_swings 1 :=
  cal_D Fu sc_swings hm hb (fun J cd A outer s H E hr => b_swings G c_lots_of c_number_of_lot J hr) ver

/-! ### _law_draw: slots 0 hand, 1 many, 2 cell, 3 digit, 4 number -/
abbrev st__law_draw : Stmt := topS 26
abbrev N__law_draw : List Str := ["hand", "many", "cell", "digit", "number"]
theorem sc__law_draw : FnScope N__law_draw ["hand", "many"] (defScope st__law_draw) := ⟨rfl, rfl, rfl, by decide +kernel, rfl, by decide +kernel, by decide +kernel⟩
def w__law_draw (J : GJ) : WS := sSeq (sIf (wTAnd (wTB (w2 oEq (wOf (w2 oIx (wB 0) (wOf (wC (.int 2))))) (wOf (wC (.int 0))))) (wTB (w2 oLt (wOf (w2 oIx (wB 0) (wOf (wC (.int 1))))) (wOf (wPr oLen (wCons (wOf (w2 oIx (wB 0) (wOf (wC (.int 0))))) wNil)))))) (sSeq (sSet 2 (wVal (w2 oIx (wOf (w2 oIx (wB 0) (wOf (wC (.int 0))))) (wOf (w2 oIx (wB 0) (wOf (wC (.int 1)))))))) (sSeq (wSetAt (w2 oAdd (wOf (w2 oIx (wB 0) (wOf (wC (.int 1))))) (wOf (wC (.int 1)))) (gIxAt 0 (wC (.int 1)))) (sSeq (wSetAt (w2 oMod (wOf (wPr oInt (wCons (wOf (w2 oAdd (wOf (w2 oAdd (wOf (w2 oMulA (wOf (w2 oIx (wB 0) (wOf (wC (.int 3))))) (wOf (wC (.int 69621))))) (wOf (w2 oMulA (wB 2) (wOf (wC (.int 48271))))))) (wOf (wC (.int 37))))) wNil))) (wOf (wC (.int 2147483587)))) (gIxAt 0 (wC (.int 3)))) (wSetAt (wIf (wTB (w2 oGe (wB 2) (wOf (w2 oPow (wOf (wC (.int 10))) (wOf (wC (.int 18))))))) (wVar 2) (wC (.int 0))) (gIxAt 0 (wC (.int 2))))))) sNil) (sSeq (sIf (wTB (w2 oGt (wOf (w2 oIx (wB 0) (wOf (wC (.int 2))))) (wOf (wC (.int 0))))) (sSeq (sSet 3 (wVal (w2 oMod (wOf (wPr oInt (wCons (wOf (w2 oIx (wB 0) (wOf (wC (.int 2))))) wNil))) (wB 1)))) (sSeq (wSetAt (w2 oDivW (wOf (w2 oIx (wB 0) (wOf (wC (.int 2))))) (wB 1)) (gIxAt 0 (wC (.int 2)))) (sRet (wVar 3)))) sNil) (sSeq (wSetAt (w2 oAdd (wOf (w2 oIx (wB 0) (wOf (wC (.int 4))))) (wOf (wC (.int 1)))) (gIxAt 0 (wC (.int 4)))) (sSeq (sSet 4 (wVal (w2 oMod (wOf (wPr oInt (wCons (wOf (w2 oMulA (wOf (wPr oInt (wCons (wOf (w2 oAdd (wOf (w2 oIx (wB 0) (wOf (wC (.int 3))))) (wOf (w2 oMulA (wOf (wC (.int 7879))) (wOf (w2 oIx (wB 0) (wOf (wC (.int 4))))))))) wNil))) (wOf (wC (.int 40692))))) wNil))) (wOf (wC (.int 2147483399)))))) (sSeq (sSet 4 (wVal (w2 oMod (wOf (wPr oInt (wCons (wOf (w2 oMulA (wB 4) (wOf (w2 oAdd (wOf (w2 oDivW (wB 4) (wOf (wC (.int 1013))))) (wOf (wC (.int 16807))))))) wNil))) (wOf (wC (.int 2147483647)))))) (sRet (w2 oMod (wOf (wPr oInt (wCons (wOf (w2 oDivW (wB 4) (wOf (wC (.int 32))))) wNil))) (wB 1)))))))
theorem b__law_draw {g : Bool} {P : Program} {w : World} {K : PySem.W.Frag} {mg : Str → Option Value} {base : Heap} (G : Glo K mg)  (J : GJ) {fa : Addr} {cd : Value} {A : Around} {outer : List Env} {s : Shared} {H : Hp} {E : XK} (hr : Rm g 0 (A.deeper (envOfC "_law_draw" (defScope st__law_draw) s.heap.objs.size fa cd))) :
    DSs (cxOf L2.CX0 P w K mg base N__law_draw "_law_draw" (defScope st__law_draw) fa cd A outer s H E).nox J (defBody st__law_draw) (w__law_draw J) := by
  have nd : N__law_draw.Nodup := sc__law_draw.nd
  have u64 := hr.rm.units
  have u65 : (A.deeper (envOfC "_law_draw" (defScope st__law_draw) s.heap.objs.size fa cd)).units + 65 < cLine := by have := hr.rm.un; omega
  have u1 : (A.deeper (envOfC "_law_draw" (defScope st__law_draw) s.heap.objs.size fa cd)).units + 1 < cLine := by have := hr.rm.un; omega
  exact (dss_cons (ds_if (dt_of (dw_and (dt_cmp (od_eq u64) (db_of (de_ix od_ix (db_var 0 (pv 0)) (db_of de_int) (fun _ _ => rfl))) (db_of de_int) (by with_unfolding_all rfl)) (dw_and1 (dt_cmp od_lt (db_of (de_ix od_ix (db_var 0 (pv 0)) (db_of de_int) (fun _ _ => rfl))) (db_of (de_callB cd_len (by rfl) G.b_len PySem.boot_len (da_cons (db_of (de_ix od_ix (db_var 0 (pv 0)) (db_of de_int) (fun _ _ => rfl))) da_nil))) (by with_unfolding_all rfl))))) (dss_cons (ds_set nd rfl (by first | exact .inl rfl | exact .inr rfl) (dv_of (de_ix od_ix (db_of (de_ix od_ix (db_var 0 (pv 0)) (db_of de_int) (fun _ _ => rfl))) (db_of (de_ix od_ix (db_var 0 (pv 0)) (db_of de_int) (fun _ _ => rfl))) (fun _ _ => rfl)))) (dss_cons (ds_asg (de_op od_add (db_of (de_ix od_ix (db_var 0 (pv 0)) (db_of de_int) (fun _ _ => rfl))) (db_of de_int)) (dg_ixAt (pv 0) de_int)) (dss_cons (ds_asg (de_op od_mod (db_of (de_callTy cd_int (by rfl) G.b_int PyProof.Rows.boot_int (da_cons (db_of (de_op od_add (db_of (de_op od_add (db_of (de_op od_mulA (db_of (de_ix od_ix (db_var 0 (pv 0)) (db_of de_int) (fun _ _ => rfl))) (db_of de_int))) (db_of (de_op od_mulA (db_var 2 (pv 2)) (db_of de_int))))) (db_of de_int))) da_nil))) (db_of de_int)) (dg_ixAt (pv 0) de_int)) (dss_one (ds_asg (de_if (dt_cmp od_ge (db_var 2 (pv 2)) (db_of (de_op od_pow (db_of de_int) (db_of de_int))) (by with_unfolding_all rfl)) (de_var 2 (pv 2)) de_int) (dg_ixAt (pv 0) de_int)))))) dss_nil) (dss_cons (ds_if (dt_cmp od_gt (db_of (de_ix od_ix (db_var 0 (pv 0)) (db_of de_int) (fun _ _ => rfl))) (db_of de_int) (by with_unfolding_all rfl)) (dss_cons (ds_set nd rfl (by first | exact .inl rfl | exact .inr rfl) (dv_of (de_op od_mod (db_of (de_callTy cd_int (by rfl) G.b_int PyProof.Rows.boot_int (da_cons (db_of (de_ix od_ix (db_var 0 (pv 0)) (db_of de_int) (fun _ _ => rfl))) da_nil))) (db_var 1 (pv 1))))) (dss_cons (ds_asg (de_op od_divW (db_of (de_ix od_ix (db_var 0 (pv 0)) (db_of de_int) (fun _ _ => rfl))) (db_var 1 (pv 1))) (dg_ixAt (pv 0) de_int)) (dss_one (ds_ret (de_var 3 (pv 3)))))) dss_nil) (dss_cons (ds_asg (de_op od_add (db_of (de_ix od_ix (db_var 0 (pv 0)) (db_of de_int) (fun _ _ => rfl))) (db_of de_int)) (dg_ixAt (pv 0) de_int)) (dss_cons (ds_set nd rfl (by first | exact .inl rfl | exact .inr rfl) (dv_of (de_op od_mod (db_of (de_callTy cd_int (by rfl) G.b_int PyProof.Rows.boot_int (da_cons (db_of (de_op od_mulA (db_of (de_callTy cd_int (by rfl) G.b_int PyProof.Rows.boot_int (da_cons (db_of (de_op od_add (db_of (de_ix od_ix (db_var 0 (pv 0)) (db_of de_int) (fun _ _ => rfl))) (db_of (de_op od_mulA (db_of de_int) (db_of (de_ix od_ix (db_var 0 (pv 0)) (db_of de_int) (fun _ _ => rfl))))))) da_nil))) (db_of de_int))) da_nil))) (db_of de_int)))) (dss_cons (ds_set nd rfl (by first | exact .inl rfl | exact .inr rfl) (dv_of (de_op od_mod (db_of (de_callTy cd_int (by rfl) G.b_int PyProof.Rows.boot_int (da_cons (db_of (de_op od_mulA (db_var 4 (pv 4)) (db_of (de_op od_add (db_of (de_op od_divW (db_var 4 (pv 4)) (db_of de_int))) (db_of de_int))))) da_nil))) (db_of de_int)))) (dss_one (ds_ret (de_op od_mod (db_of (de_callTy cd_int (by rfl) G.b_int PyProof.Rows.boot_int (da_cons (db_of (de_op od_divW (db_var 4 (pv 4)) (db_of de_int))) da_nil))) (db_var 1 (pv 1))))))))))

/-! ### _law_some: slots 0 hand, 1 things -/
abbrev st__law_some : Stmt := topS 27
abbrev N__law_some : List Str := ["hand", "things"]
theorem sc__law_some : FnScope N__law_some ["hand", "things"] (defScope st__law_some) := ⟨rfl, rfl, rfl, by decide +kernel, rfl, by decide +kernel, by decide +kernel⟩
def w__law_some (J : GJ) : WS := sRet (w2 oIx (wB 1) (wOf (wCall J S__law_draw 2 (wCons (wOf (wVar 0)) (wCons (wOf (wPr oLen (wCons (wB 1) wNil))) wNil)))))
theorem b__law_some {g : Bool} {P : Program} {w : World} {K : PySem.W.Frag} {mg : Str → Option Value} {base : Heap} (G : Glo K mg) (c__law_draw : CalG g P w K mg base 1 "_law_draw" S__law_draw 2)  (J : GJ) {fa : Addr} {cd : Value} {A : Around} {outer : List Env} {s : Shared} {H : Hp} {E : XK} (hr : Rm g 1 (A.deeper (envOfC "_law_some" (defScope st__law_some) s.heap.objs.size fa cd))) :
    DSs (cxOf L2.CX0 P w K mg base N__law_some "_law_some" (defScope st__law_some) fa cd A outer s H E).nox J (defBody st__law_some) (w__law_some J) := by
  have nd : N__law_some.Nodup := sc__law_some.nd
  have u64 := hr.rm.units
  have u65 : (A.deeper (envOfC "_law_some" (defScope st__law_some) s.heap.objs.size fa cd)).units + 65 < cLine := by have := hr.rm.un; omega
  have u1 : (A.deeper (envOfC "_law_some" (defScope st__law_some) s.heap.objs.size fa cd)).units + 1 < cLine := by have := hr.rm.un; omega
  exact (dss_one (ds_ret (de_ix od_ix (db_var 1 (pv 1)) (db_of (de_call c__law_draw hr (by decide) (by rfl) (da_cons (db_of (de_var 0 (pv 0))) (da_cons (db_of (de_callB cd_len (by rfl) G.b_len PySem.boot_len (da_cons (db_var 1 (pv 1)) da_nil))) da_nil)))) (fun _ _ => rfl))))
theorem c__law_some {g : Bool} {P : Program} {w : World} {K : PySem.W.Frag} {mg : Str → Option Value} {base : Heap} (G : Glo K mg) (c__law_draw : CalG g P w K mg base 1 "_law_draw" S__law_draw 2)  {f : Addr} {fd : FuncData} (Fu : L2.Fun K "_law_some" "_law_some" st__law_some f fd) (hm : mg "_law_some" = some (.ref f)) (hb : Binds K fd ["hand", "things"] []) (ver : ∀ (J : GJ) (ds : List D) (q : D → Prop), ds.length = 2 → S__law_some J ds q → w__law_some J (startE N__law_some ds) { nx := fun _ => q .non, rt := fun d _ => q d }) : CalG g P w K mg base 2 "_law_some" S__law_some 2 :=
  cal_D Fu sc__law_some hm hb (fun J cd A outer s H E hr => b__law_some G c__law_draw J hr) ver

/-! ### _law_common: slots 0 one, 1 other -/
abbrev st__law_common : Stmt := topS 28
abbrev N__law_common : List Str := ["one", "other"]
theorem sc__law_common : FnScope N__law_common ["one", "other"] (defScope st__law_common) := ⟨rfl, rfl, rfl, by decide +kernel, rfl, by decide +kernel, by decide +kernel⟩
def w__law_common (J : GJ) : WS := sSeq (sPar 0 1 (wVal (wPr oAbs (wCons (wB 0) wNil))) (wVal (wPr oAbs (wCons (wB 1) wNil)))) (sSeq (sWhile (wTB (w2 oGt (wB 1) (wOf (wC (.int 0))))) (sPar 0 1 (wVal (wVar 1)) (wVal (w2 oMod (wOf (wPr oInt (wCons (wB 0) wNil))) (wB 1))))) (sRet (wVar 0)))
theorem b__law_common {g : Bool} {P : Program} {w : World} {K : PySem.W.Frag} {mg : Str → Option Value} {base : Heap} (G : Glo K mg)  (J : GJ) {fa : Addr} {cd : Value} {A : Around} {outer : List Env} {s : Shared} {H : Hp} {E : XK} (hr : Rm g 0 (A.deeper (envOfC "_law_common" (defScope st__law_common) s.heap.objs.size fa cd))) :
    DSs (cxOf L2.CX0 P w K mg base N__law_common "_law_common" (defScope st__law_common) fa cd A outer s H E).nox J (defBody st__law_common) (w__law_common J) := by
  have nd : N__law_common.Nodup := sc__law_common.nd
  have u64 := hr.rm.units
  have u65 : (A.deeper (envOfC "_law_common" (defScope st__law_common) s.heap.objs.size fa cd)).units + 65 < cLine := by have := hr.rm.un; omega
  have u1 : (A.deeper (envOfC "_law_common" (defScope st__law_common) s.heap.objs.size fa cd)).units + 1 < cLine := by have := hr.rm.un; omega
  exact (dss_cons (ds_par rfl nd rfl rfl (by decide) rfl rfl (dv_of (de_callB cd_abs (by rfl) G.b_abs PyProof.Rows.boot_abs (da_cons (db_var 0 (pv 0)) da_nil))) (dv_of (de_callB cd_abs (by rfl) G.b_abs PyProof.Rows.boot_abs (da_cons (db_var 1 (pv 1)) da_nil))) rfl) (dss_cons (ds_while PassesOwn.never (dt_cmp od_gt (db_var 1 (pv 1)) (db_of de_int) (by with_unfolding_all rfl)) (dss_one (ds_par rfl nd rfl rfl (by decide) rfl rfl (dv_of (de_var 1 (pv 1))) (dv_of (de_op od_mod (db_of (de_callTy cd_int (by rfl) G.b_int PyProof.Rows.boot_int (da_cons (db_var 0 (pv 0)) da_nil))) (db_var 1 (pv 1)))) rfl))) (dss_one (ds_ret (de_var 0 (pv 0))))))
theorem c__law_common {g : Bool} {P : Program} {w : World} {K : PySem.W.Frag} {mg : Str → Option Value} {base : Heap} (G : Glo K mg)  {f : Addr} {fd : FuncData} (Fu : L2.Fun K "_law_common" "_law_common" st__law_common f fd) (hm : mg "_law_common" = some (.ref f)) (hb : Binds K fd ["one", "other"] []) (ver : ∀ (J : GJ) (ds : List D) (q : D → Prop), ds.length = 2 → S__law_common J ds q → w__law_common J (startE N__law_common ds) { nx := fun _ => q .non, rt := fun d _ => q d }) : CalG g P w K mg base 1 "_law_common" S__law_common 2 :=
  cal_D Fu sc__law_common hm hb (fun J cd A outer s H E hr => b__law_common G  J hr) ver

/-! ### _law_fraction: slots 0 top, 1 bottom, 2 by -/
abbrev st__law_fraction : Stmt := topS 29
abbrev N__law_fraction : List Str := ["top", "bottom", "by"]
theorem sc__law_fraction : FnScope N__law_fraction ["top", "bottom"] (defScope st__law_fraction) := ⟨rfl, rfl, rfl, by decide +kernel, rfl, by decide +kernel, by decide +kernel⟩
def w__law_fraction (J : GJ) : WS := sSeq (sSet 2 (wVal (w2 oMulA (wOf (wCall J S__law_common 2 (wCons (wOf (wVar 0)) (wCons (wOf (wVar 1)) wNil)))) (wOf (wIf (wTB (w2 oGt (wB 1) (wOf (wC (.int 0))))) (wC (.int 1)) (w1 oNeg (wOf (wC (.int 1))))))))) (sRet (wTup (wCons (wOf (w2 oDivW (wB 0) (wB 2))) (wCons (wOf (w2 oDivW (wB 1) (wB 2))) wNil))))
theorem b__law_fraction {g : Bool} {P : Program} {w : World} {K : PySem.W.Frag} {mg : Str → Option Value} {base : Heap} (G : Glo K mg) (c__law_common : CalG g P w K mg base 1 "_law_common" S__law_common 2)  (J : GJ) {fa : Addr} {cd : Value} {A : Around} {outer : List Env} {s : Shared} {H : Hp} {E : XK} (hr : Rm g 1 (A.deeper (envOfC "_law_fraction" (defScope st__law_fraction) s.heap.objs.size fa cd))) :
    DSs (cxOf L2.CX0 P w K mg base N__law_fraction "_law_fraction" (defScope st__law_fraction) fa cd A outer s H E).nox J (defBody st__law_fraction) (w__law_fraction J) := by
  have nd : N__law_fraction.Nodup := sc__law_fraction.nd
  have u64 := hr.rm.units
  have u65 : (A.deeper (envOfC "_law_fraction" (defScope st__law_fraction) s.heap.objs.size fa cd)).units + 65 < cLine := by have := hr.rm.un; omega
  have u1 : (A.deeper (envOfC "_law_fraction" (defScope st__law_fraction) s.heap.objs.size fa cd)).units + 1 < cLine := by have := hr.rm.un; omega
  exact (dss_cons (ds_set nd rfl (by first | exact .inl rfl | exact .inr rfl) (dv_of (de_op od_mulA (db_of (de_call c__law_common hr (by decide) (by rfl) (da_cons (db_of (de_var 0 (pv 0))) (da_cons (db_of (de_var 1 (pv 1))) da_nil)))) (db_of (de_if (dt_cmp od_gt (db_var 1 (pv 1)) (db_of de_int) (by with_unfolding_all rfl)) de_int (de_un ud_neg (db_of de_int))))))) (dss_one (ds_ret (de_tup (da_cons (db_of (de_op od_divW (db_var 0 (pv 0)) (db_var 2 (pv 2)))) (da_cons (db_of (de_op od_divW (db_var 1 (pv 1)) (db_var 2 (pv 2)))) da_nil))))))
theorem c__law_fraction {g : Bool} {P : Program} {w : World} {K : PySem.W.Frag} {mg : Str → Option Value} {base : Heap} (G : Glo K mg) (c__law_common : CalG g P w K mg base 1 "_law_common" S__law_common 2)  {f : Addr} {fd : FuncData} (Fu : L2.Fun K "_law_fraction" "_law_fraction" st__law_fraction f fd) (hm : mg "_law_fraction" = some (.ref f)) (hb : Binds K fd ["top", "bottom"] []) (ver : ∀ (J : GJ) (ds : List D) (q : D → Prop), ds.length = 2 → S__law_fraction J ds q → w__law_fraction J (startE N__law_fraction ds) { nx := fun _ => q .non, rt := fun d _ => q d }) : CalG g P w K mg base 2 "_law_fraction" S__law_fraction 2 :=
  cal_D Fu sc__law_fraction hm hb (fun J cd A outer s H E hr => b__law_fraction G c__law_common J hr) ver

/-! ### _law_orders: slots 0 n, 1 found, 2 turn, 3 one, 4 row -/
abbrev st__law_orders : Stmt := topS 30
abbrev N__law_orders : List Str := ["n", "found", "turn", "one", "row"]
theorem sc__law_orders : FnScope N__law_orders ["n"] (defScope st__law_orders) := ⟨rfl, rfl, rfl, by decide +kernel, rfl, by decide +kernel, by decide +kernel⟩
def w__law_orders (J : GJ) : WS := sSeq (sSet 1 (wVal (wLst (wCons (wOf (wTup wNil)) wNil)))) (sSeq (sFor (wR1 (wCons (wOf (wVar 0)) wNil)) (gN 2) (sSet 1 (wVal (wPr oSumL (wCons (wOf (wLC [4] (wIs (wVar 1)) (gN 4) wYes (wLC [3] (wR1 (wCons (wOf (wVar 0)) wNil)) (gN 3) (wTB (w2 oNotIn (wB 3) (wB 4))) (w2 oAdd (wB 4) (wOf (wTup (wCons (wOf (wVar 3)) wNil))))))) (wCons (wOf (wLst wNil)) wNil)))))) (sRet (wVar 1)))
theorem b__law_orders {g : Bool} {P : Program} {w : World} {K : PySem.W.Frag} {mg : Str → Option Value} {base : Heap} (G : Glo K mg)  (J : GJ) {fa : Addr} {cd : Value} {A : Around} {outer : List Env} {s : Shared} {H : Hp} {E : XK} (hr : Rm g 0 (A.deeper (envOfC "_law_orders" (defScope st__law_orders) s.heap.objs.size fa cd))) :
    DSs (cxOf L2.CX0 P w K mg base N__law_orders "_law_orders" (defScope st__law_orders) fa cd A outer s H E).nox J (defBody st__law_orders) (w__law_orders J) := by
  have nd : N__law_orders.Nodup := sc__law_orders.nd
  have u64 := hr.rm.units
  have u65 : (A.deeper (envOfC "_law_orders" (defScope st__law_orders) s.heap.objs.size fa cd)).units + 65 < cLine := by have := hr.rm.un; omega
  have u1 : (A.deeper (envOfC "_law_orders" (defScope st__law_orders) s.heap.objs.size fa cd)).units + 1 < cLine := by have := hr.rm.un; omega
  exact (dss_cons (ds_set nd rfl (by first | exact .inl rfl | exact .inr rfl) (dv_of (de_lst (da_cons (db_of (de_tup da_nil)) da_nil)))) (dss_cons (ds_for PassesOwn.never rfl (di_r1 (by rfl) G.b_range (da_cons (db_of (de_var 0 (pv 0))) da_nil)) (dg_name 2 (L2.pg_name nd rfl (by first | exact .inl rfl | exact .inr rfl))) (dss_one (ds_set nd rfl (by first | exact .inl rfl | exact .inr rfl) (dv_of (de_callB (cd_sumL rfl) (by rfl) G.b_sum PyProof.Rows.boot_sum (da_cons (db_of (de_lc rfl nd (di_seq (de_var 1 (pv 1))) (blkOk_by (own := [("row", 4)]) (by kernel_rfl)) (fun _ _ _ _ _ => (dg_name 4 (L2.pg_name nd rfl (by first | exact .inl rfl | exact .inr rfl)))) (fun _ _ _ _ _ => dts_nil) (fun _ _ _ _ _ => (de_lc rfl nd (di_r1 (by rfl) G.b_range (da_cons (db_of (de_var 0 (pv 0))) da_nil)) (blkOk_by (own := [("one", 3)]) (by kernel_rfl)) (fun _ _ _ _ _ => (dg_name 3 (L2.pg_name nd rfl (by first | exact .inl rfl | exact .inr rfl)))) (fun _ _ _ _ _ => dts_one (dt_cmp (od_notIn u65) (db_var 3 (pv 3)) (db_var 4 (pv 4)) (by with_unfolding_all rfl))) (fun _ _ _ _ _ => (de_op od_add (db_var 4 (pv 4)) (db_of (de_tup (da_cons (db_of (de_var 3 (pv 3))) da_nil))))))))) (da_cons (db_of (de_lst da_nil)) da_nil))))))) (dss_one (ds_ret (de_var 1 (pv 1))))))
theorem c__law_orders {g : Bool} {P : Program} {w : World} {K : PySem.W.Frag} {mg : Str → Option Value} {base : Heap} (G : Glo K mg)  {f : Addr} {fd : FuncData} (Fu : L2.Fun K "_law_orders" "_law_orders" st__law_orders f fd) (hm : mg "_law_orders" = some (.ref f)) (hb : Binds K fd ["n"] []) (ver : ∀ (J : GJ) (ds : List D) (q : D → Prop), ds.length = 1 → S__law_orders J ds q → w__law_orders J (startE N__law_orders ds) { nx := fun _ => q .non, rt := fun d _ => q d }) : CalG g P w K mg base 1 "_law_orders" S__law_orders 1 :=
  cal_D Fu sc__law_orders hm hb (fun J cd A outer s H E hr => b__law_orders G  J hr) ver

/-! ### _law_bit: slots 0 one -/
abbrev st__law_bit : Stmt := topS 31
abbrev N__law_bit : List Str := ["one"]
theorem sc__law_bit : FnScope N__law_bit ["one"] (defScope st__law_bit) := ⟨rfl, rfl, rfl, by decide +kernel, rfl, by decide +kernel, by decide +kernel⟩
def w__law_bit (J : GJ) : WS := sRet (w2 oIx (wOf (wLst (wCons (wOf (wC (.int 1))) (wCons (wOf (wC (.int 2))) (wCons (wOf (wC (.int 4))) (wCons (wOf (wC (.int 8))) wNil)))))) (wB 0))
theorem b__law_bit {g : Bool} {P : Program} {w : World} {K : PySem.W.Frag} {mg : Str → Option Value} {base : Heap} (G : Glo K mg)  (J : GJ) {fa : Addr} {cd : Value} {A : Around} {outer : List Env} {s : Shared} {H : Hp} {E : XK} (hr : Rm g 0 (A.deeper (envOfC "_law_bit" (defScope st__law_bit) s.heap.objs.size fa cd))) :
    DSs (cxOf L2.CX0 P w K mg base N__law_bit "_law_bit" (defScope st__law_bit) fa cd A outer s H E).nox J (defBody st__law_bit) (w__law_bit J) := by
  have nd : N__law_bit.Nodup := sc__law_bit.nd
  have u64 := hr.rm.units
  have u65 : (A.deeper (envOfC "_law_bit" (defScope st__law_bit) s.heap.objs.size fa cd)).units + 65 < cLine := by have := hr.rm.un; omega
  have u1 : (A.deeper (envOfC "_law_bit" (defScope st__law_bit) s.heap.objs.size fa cd)).units + 1 < cLine := by have := hr.rm.un; omega
  exact (dss_one (ds_ret (de_ix od_ix (db_of (de_lst (da_cons (db_of de_int) (da_cons (db_of de_int) (da_cons (db_of de_int) (da_cons (db_of de_int) da_nil)))))) (db_var 0 (pv 0)) (fun _ _ => rfl))))
theorem c__law_bit {g : Bool} {P : Program} {w : World} {K : PySem.W.Frag} {mg : Str → Option Value} {base : Heap} (G : Glo K mg)  {f : Addr} {fd : FuncData} (Fu : L2.Fun K "_law_bit" "_law_bit" st__law_bit f fd) (hm : mg "_law_bit" = some (.ref f)) (hb : Binds K fd ["one"] []) (ver : ∀ (J : GJ) (ds : List D) (q : D → Prop), ds.length = 1 → S__law_bit J ds q → w__law_bit J (startE N__law_bit ds) { nx := fun _ => q .non, rt := fun d _ => q d }) : CalG g P w K mg base 1 "_law_bit" S__law_bit 1 :=
  cal_D Fu sc__law_bit hm hb (fun J cd A outer s H E hr => b__law_bit G  J hr) ver

/-! ### _law_worths: slots 0 hand, 1 n, 2 many, 3 sort, 4 wide, 5 found, 6 k, 7 parts, 8 less, 9 heavy, 10 quota, 11 one, 12 row -/
abbrev st__law_worths : Stmt := topS 32
abbrev N__law_worths : List Str := ["hand", "n", "many", "sort", "wide", "found", "k", "parts", "less", "heavy", "quota", "one", "row"]
theorem sc__law_worths : FnScope N__law_worths ["hand", "n"] (defScope st__law_worths) := ⟨rfl, rfl, rfl, by decide +kernel, rfl, by decide +kernel, by decide +kernel⟩
def w__law_worths (J : GJ) : WS := sSeq (sPar 2 3 (wVal (w2 oIx (wOf (wLst (wCons (wOf (wC (.int 1))) (wCons (wOf (wC (.int 2))) (wCons (wOf (wC (.int 4))) (wCons (wOf (wC (.int 8))) (wCons (wOf (wC (.int 16))) wNil))))))) (wB 1))) (wVal (wCall J S__law_draw 2 (wCons (wOf (wVar 0)) (wCons (wOf (wC (.int 5))) wNil))))) (sSeq (sSet 4 (wVal (wCall J S__law_some 2 (wCons (wOf (wVar 0)) (wCons (wOf (wLst (wCons (wOf (wC (.int 1))) (wCons (wOf (wC (.int 9))) (wCons (wOf (w2 oPow (wOf (wC (.int 10))) (wOf (wC (.int 20))))) wNil))))) wNil))))) (sSeq (sSet 5 (wVal (w2 oAdd (wOf (wLst (wCons (wOf (wC (.int 0))) wNil))) (wOf (wLC [6] (wR2 (wCons (wOf (wC (.int 1))) (wCons (wOf (wVar 2)) wNil))) (gN 6) wYes (w2 oSub (wOf (wCall J S__law_draw 2 (wCons (wOf (wVar 0)) (wCons (wOf (w2 oAdd (wOf (w2 oMulA (wOf (wC (.int 2))) (wB 4))) (wOf (wC (.int 1))))) wNil)))) (wB 4))))))) (sSeq (sIf (wTB (w2 oEq (wB 3) (wOf (wC (.int 0))))) (sSeq (sSet 7 (wVal (w2 oAdd (wOf (wLst (wCons (wOf (wC (.int 0))) wNil))) (wOf (wLC [6] (wR2 (wCons (wOf (wC (.int 1))) (wCons (wOf (wVar 2)) wNil))) (gN 6) wYes (wCall J S__law_draw 2 (wCons (wOf (wVar 0)) (wCons (wOf (w2 oAdd (wB 4) (wOf (wC (.int 1))))) wNil)))))))) (sSet 5 (wVal (wLC [6] (wR1 (wCons (wOf (wVar 2)) wNil)) (gN 6) wYes (wPr oSumA (wCons (wOf (wLC [8] (wR1 (wCons (wOf (wVar 2)) wNil)) (gN 8) (wTB (w2 oEq (wOf (w2 oBand (wB 8) (wB 6))) (wB 8))) (w2 oIx (wB 7) (wB 8)))) wNil)))))) sNil) (sSeq (sIf (wTB (w2 oEq (wB 3) (wOf (wC (.int 1))))) (sSeq (sPar 9 10 (wVal (wLC [11] (wR1 (wCons (wOf (wVar 1)) wNil)) (gN 11) wYes (w2 oAdd (wOf (wC (.int 1))) (wOf (wCall J S__law_draw 2 (wCons (wOf (wVar 0)) (wCons (wOf (wC (.int 5))) wNil))))))) (wVal (w2 oAdd (wOf (wC (.int 1))) (wOf (wCall J S__law_draw 2 (wCons (wOf (wVar 0)) (wCons (wOf (wC (.int 6))) wNil))))))) (sSet 5 (wVal (wLC [6] (wR1 (wCons (wOf (wVar 2)) wNil)) (gN 6) wYes (wPr oInt (wCons (wOf (w2 oGe (wOf (wPr oSumA (wCons (wOf (wLC [11] (wR1 (wCons (wOf (wVar 1)) wNil)) (gN 11) (wTB (w2 oGt (wOf (w2 oBand (wB 6) (wOf (wCall J S__law_bit 1 (wCons (wOf (wVar 11)) wNil))))) (wOf (wC (.int 0))))) (w2 oIx (wB 9) (wB 11)))) wNil))) (wB 10))) wNil)))))) sNil) (sSeq (sIf (wTB (w2 oEq (wB 3) (wOf (wC (.int 2))))) (sSeq (sSet 12 (wVal (w2 oAdd (wOf (wLst (wCons (wOf (wC (.int 0))) wNil))) (wOf (wLC [11] (wR1 (wCons (wOf (wVar 1)) wNil)) (gN 11) wYes (wCall J S__law_draw 2 (wCons (wOf (wVar 0)) (wCons (wOf (w2 oAdd (wB 4) (wOf (wC (.int 1))))) wNil)))))))) (sSet 5 (wVal (wLC [6] (wR1 (wCons (wOf (wVar 2)) wNil)) (gN 6) wYes (w2 oIx (wB 12) (wOf (wPr oLen (wCons (wOf (wLC [11] (wR1 (wCons (wOf (wVar 1)) wNil)) (gN 11) (wTB (w2 oGt (wOf (w2 oBand (wB 6) (wOf (wCall J S__law_bit 1 (wCons (wOf (wVar 11)) wNil))))) (wOf (wC (.int 0))))) (wVar 11))) wNil)))))))) sNil) (sRet (wPr oTuple (wCons (wB 5) wNil))))))))
theorem b__law_worths {g : Bool} {P : Program} {w : World} {K : PySem.W.Frag} {mg : Str → Option Value} {base : Heap} (G : Glo K mg) (c__law_draw : CalG g P w K mg base 1 "_law_draw" S__law_draw 2) (c__law_some : CalG g P w K mg base 2 "_law_some" S__law_some 2) (c__law_bit : CalG g P w K mg base 1 "_law_bit" S__law_bit 1)  (J : GJ) {fa : Addr} {cd : Value} {A : Around} {outer : List Env} {s : Shared} {H : Hp} {E : XK} (hr : Rm g 2 (A.deeper (envOfC "_law_worths" (defScope st__law_worths) s.heap.objs.size fa cd))) :
    DSs (cxOf L2.CX0 P w K mg base N__law_worths "_law_worths" (defScope st__law_worths) fa cd A outer s H E).nox J (defBody st__law_worths) (w__law_worths J) := by
  have nd : N__law_worths.Nodup := sc__law_worths.nd
  have u64 := hr.rm.units
  have u65 : (A.deeper (envOfC "_law_worths" (defScope st__law_worths) s.heap.objs.size fa cd)).units + 65 < cLine := by have := hr.rm.un; omega
  have u1 : (A.deeper (envOfC "_law_worths" (defScope st__law_worths) s.heap.objs.size fa cd)).units + 1 < cLine := by have := hr.rm.un; omega
  exact (dss_cons (ds_parT rfl nd (by decide) (L2.pg_name nd rfl (by first | exact .inl rfl | exact .inr rfl)) (L2.pg_name nd rfl (by first | exact .inl rfl | exact .inr rfl)) (dv_of (de_ix od_ix (db_of (de_lst (da_cons (db_of de_int) (da_cons (db_of de_int) (da_cons (db_of de_int) (da_cons (db_of de_int) (da_cons (db_of de_int) da_nil))))))) (db_var 1 (pv 1)) (fun _ _ => rfl))) (dv_of (de_call c__law_draw hr (by decide) (by rfl) (da_cons (db_of (de_var 0 (pv 0))) (da_cons (db_of de_int) da_nil))))) (dss_cons (ds_set nd rfl (by first | exact .inl rfl | exact .inr rfl) (dv_of (de_call c__law_some hr (by decide) (by rfl) (da_cons (db_of (de_var 0 (pv 0))) (da_cons (db_of (de_lst (da_cons (db_of de_int) (da_cons (db_of de_int) (da_cons (db_of (de_op od_pow (db_of de_int) (db_of de_int))) da_nil))))) da_nil))))) (dss_cons (ds_set nd rfl (by first | exact .inl rfl | exact .inr rfl) (dv_of (de_op od_add (db_of (de_lst (da_cons (db_of de_int) da_nil))) (db_of (de_lc rfl nd (di_r2 (by rfl) G.b_range (da_cons (db_of de_int) (da_cons (db_of (de_var 2 (pv 2))) da_nil))) (blkOk_by (own := [("k", 6)]) (by kernel_rfl)) (fun _ _ _ _ _ => (dg_name 6 (L2.pg_name nd rfl (by first | exact .inl rfl | exact .inr rfl)))) (fun _ _ _ _ _ => dts_nil) (fun _ _ _ _ _ => (de_op od_sub (db_of (de_call c__law_draw hr (by decide) (by rfl) (da_cons (db_of (de_var 0 (pv 0))) (da_cons (db_of (de_op od_add (db_of (de_op od_mulA (db_of de_int) (db_var 4 (pv 4)))) (db_of de_int))) da_nil)))) (db_var 4 (pv 4))))))))) (dss_cons (ds_if (dt_cmp (od_eq u64) (db_var 3 (pv 3)) (db_of de_int) (by with_unfolding_all rfl)) (dss_cons (ds_set nd rfl (by first | exact .inl rfl | exact .inr rfl) (dv_of (de_op od_add (db_of (de_lst (da_cons (db_of de_int) da_nil))) (db_of (de_lc rfl nd (di_r2 (by rfl) G.b_range (da_cons (db_of de_int) (da_cons (db_of (de_var 2 (pv 2))) da_nil))) (blkOk_by (own := [("k", 6)]) (by kernel_rfl)) (fun _ _ _ _ _ => (dg_name 6 (L2.pg_name nd rfl (by first | exact .inl rfl | exact .inr rfl)))) (fun _ _ _ _ _ => dts_nil) (fun _ _ _ _ _ => (de_call c__law_draw hr (by decide) (by rfl) (da_cons (db_of (de_var 0 (pv 0))) (da_cons (db_of (de_op od_add (db_var 4 (pv 4)) (db_of de_int))) da_nil))))))))) (dss_one (ds_setLc rfl nd rfl rfl rfl (di_r1 (by rfl) G.b_range (da_cons (db_of (de_var 2 (pv 2))) da_nil)) (blkOk_by (own := [("k", 6)]) (by kernel_rfl)) (fun _ _ _ _ _ => (dg_name 6 (L2.pg_name nd rfl (by first | exact .inl rfl | exact .inr rfl)))) (fun _ _ _ _ _ => dts_nil) (fun _ _ _ _ _ => (de_callB (cd_sumA rfl) (by rfl) G.b_sum PyProof.Rows.boot_sum (da_cons (db_of (de_lc rfl nd (di_r1 (by rfl) G.b_range (da_cons (db_of (de_var 2 (pv 2))) da_nil)) (blkOk_by (own := [("less", 8)]) (by kernel_rfl)) (fun _ _ _ _ _ => (dg_name 8 (L2.pg_name nd rfl (by first | exact .inl rfl | exact .inr rfl)))) (fun _ _ _ _ _ => dts_one (dt_cmp (od_eq u64) (db_of (de_op od_band (db_var 8 (pv 8)) (db_var 6 (pv 6)))) (db_var 8 (pv 8)) (by with_unfolding_all rfl))) (fun _ _ _ _ _ => (de_ix od_ix (db_var 7 (pv 7)) (db_var 8 (pv 8)) (fun _ _ => rfl))))) da_nil)))))) dss_nil) (dss_cons (ds_if (dt_cmp (od_eq u64) (db_var 3 (pv 3)) (db_of de_int) (by with_unfolding_all rfl)) (dss_cons (ds_parT rfl nd (by decide) (L2.pg_name nd rfl (by first | exact .inl rfl | exact .inr rfl)) (L2.pg_name nd rfl (by first | exact .inl rfl | exact .inr rfl)) (dv_of (de_lc rfl nd (di_r1 (by rfl) G.b_range (da_cons (db_of (de_var 1 (pv 1))) da_nil)) (blkOk_by (own := [("one", 11)]) (by kernel_rfl)) (fun _ _ _ _ _ => (dg_name 11 (L2.pg_name nd rfl (by first | exact .inl rfl | exact .inr rfl)))) (fun _ _ _ _ _ => dts_nil) (fun _ _ _ _ _ => (de_op od_add (db_of de_int) (db_of (de_call c__law_draw hr (by decide) (by rfl) (da_cons (db_of (de_var 0 (pv 0))) (da_cons (db_of de_int) da_nil)))))))) (dv_of (de_op od_add (db_of de_int) (db_of (de_call c__law_draw hr (by decide) (by rfl) (da_cons (db_of (de_var 0 (pv 0))) (da_cons (db_of de_int) da_nil))))))) (dss_one (ds_setLc rfl nd rfl rfl rfl (di_r1 (by rfl) G.b_range (da_cons (db_of (de_var 2 (pv 2))) da_nil)) (blkOk_by (own := [("k", 6)]) (by kernel_rfl)) (fun _ _ _ _ _ => (dg_name 6 (L2.pg_name nd rfl (by first | exact .inl rfl | exact .inr rfl)))) (fun _ _ _ _ _ => dts_nil) (fun _ _ _ _ _ => (de_callTy cd_int (by rfl) G.b_int PyProof.Rows.boot_int (da_cons (db_of (de_cmp od_ge (db_of (de_callB (cd_sumA rfl) (by rfl) G.b_sum PyProof.Rows.boot_sum (da_cons (db_of (de_lc rfl nd (di_r1 (by rfl) G.b_range (da_cons (db_of (de_var 1 (pv 1))) da_nil)) (blkOk_by (own := [("one", 11)]) (by kernel_rfl)) (fun _ _ _ _ _ => (dg_name 11 (L2.pg_name nd rfl (by first | exact .inl rfl | exact .inr rfl)))) (fun _ _ _ _ _ => dts_one (dt_cmp od_gt (db_of (de_op od_band (db_var 6 (pv 6)) (db_of (de_call c__law_bit hr (by decide) (by rfl) (da_cons (db_of (de_var 11 (pv 11))) da_nil))))) (db_of de_int) (by with_unfolding_all rfl))) (fun _ _ _ _ _ => (de_ix od_ix (db_var 9 (pv 9)) (db_var 11 (pv 11)) (fun _ _ => rfl))))) da_nil))) (db_var 10 (pv 10)) (by with_unfolding_all rfl))) da_nil)))))) dss_nil) (dss_cons (ds_if (dt_cmp (od_eq u64) (db_var 3 (pv 3)) (db_of de_int) (by with_unfolding_all rfl)) (dss_cons (ds_set nd rfl (by first | exact .inl rfl | exact .inr rfl) (dv_of (de_op od_add (db_of (de_lst (da_cons (db_of de_int) da_nil))) (db_of (de_lc rfl nd (di_r1 (by rfl) G.b_range (da_cons (db_of (de_var 1 (pv 1))) da_nil)) (blkOk_by (own := [("one", 11)]) (by kernel_rfl)) (fun _ _ _ _ _ => (dg_name 11 (L2.pg_name nd rfl (by first | exact .inl rfl | exact .inr rfl)))) (fun _ _ _ _ _ => dts_nil) (fun _ _ _ _ _ => (de_call c__law_draw hr (by decide) (by rfl) (da_cons (db_of (de_var 0 (pv 0))) (da_cons (db_of (de_op od_add (db_var 4 (pv 4)) (db_of de_int))) da_nil))))))))) (dss_one (ds_setLc rfl nd rfl rfl rfl (di_r1 (by rfl) G.b_range (da_cons (db_of (de_var 2 (pv 2))) da_nil)) (blkOk_by (own := [("k", 6)]) (by kernel_rfl)) (fun _ _ _ _ _ => (dg_name 6 (L2.pg_name nd rfl (by first | exact .inl rfl | exact .inr rfl)))) (fun _ _ _ _ _ => dts_nil) (fun _ _ _ _ _ => (de_ix od_ix (db_var 12 (pv 12)) (db_of (de_callB cd_len (by rfl) G.b_len PySem.boot_len (da_cons (db_of (de_lc rfl nd (di_r1 (by rfl) G.b_range (da_cons (db_of (de_var 1 (pv 1))) da_nil)) (blkOk_by (own := [("one", 11)]) (by kernel_rfl)) (fun _ _ _ _ _ => (dg_name 11 (L2.pg_name nd rfl (by first | exact .inl rfl | exact .inr rfl)))) (fun _ _ _ _ _ => dts_one (dt_cmp od_gt (db_of (de_op od_band (db_var 6 (pv 6)) (db_of (de_call c__law_bit hr (by decide) (by rfl) (da_cons (db_of (de_var 11 (pv 11))) da_nil))))) (db_of de_int) (by with_unfolding_all rfl))) (fun _ _ _ _ _ => (de_var 11 (pv 11))))) da_nil))) (fun _ _ => rfl)))))) dss_nil) (dss_one (ds_ret (de_callTy cd_tuple (by rfl) G.b_tuple PyProof.Rows.boot_tuple (da_cons (db_var 5 (pv 5)) da_nil))))))))))
theorem c__law_worths {g : Bool} {P : Program} {w : World} {K : PySem.W.Frag} {mg : Str → Option Value} {base : Heap} (G : Glo K mg) (c__law_draw : CalG g P w K mg base 1 "_law_draw" S__law_draw 2) (c__law_some : CalG g P w K mg base 2 "_law_some" S__law_some 2) (c__law_bit : CalG g P w K mg base 1 "_law_bit" S__law_bit 1)  {f : Addr} {fd : FuncData} (Fu : L2.Fun K "_law_worths" "_law_worths" st__law_worths f fd) (hm : mg "_law_worths" = some (.ref f)) (hb : Binds K fd ["hand", "n"] []) (ver : ∀ (J : GJ) (ds : List D) (q : D → Prop), ds.length = 2 → S__law_worths J ds q → w__law_worths J (startE N__law_worths ds) { nx := fun _ => q .non, rt := fun d _ => q d }) : CalG g P w K mg base 3 "_law_worths" S__law_worths 2 :=
  cal_D Fu sc__law_worths hm hb (fun J cd A outer s H E hr => b__law_worths G c__law_draw c__law_some c__law_bit J hr) ver

/-! ### _law_brought: slots 0 worths, 1 order, 2 found, 3 here, 4 one -/
abbrev st__law_brought : Stmt := topS 33
abbrev N__law_brought : List Str := ["worths", "order", "found", "here", "one"]
theorem sc__law_brought : FnScope N__law_brought ["worths", "order"] (defScope st__law_brought) := ⟨rfl, rfl, rfl, by decide +kernel, rfl, by decide +kernel, by decide +kernel⟩
def w__law_brought (J : GJ) : WS := sSeq (sPar 2 3 (wNewRep (wLst (wCons (wOf (wC (.int 0))) wNil)) (wPr oLen (wCons (wB 1) wNil))) (wVal (wC (.int 0)))) (sSeq (sFor (wIs (wVar 1)) (gN 4) (sSeq (wSetAt (w2 oSub (wOf (w2 oIx (wB 0) (wOf (w2 oBor (wB 3) (wOf (wCall J S__law_bit 1 (wCons (wOf (wVar 4)) wNil))))))) (wOf (w2 oIx (wB 0) (wB 3)))) (gIxL 2 (wVar 4))) (sSet 3 (wVal (w2 oBor (wB 3) (wOf (wCall J S__law_bit 1 (wCons (wOf (wVar 4)) wNil)))))))) (sRet (wPr oTuple (wCons (wB 2) wNil))))
theorem b__law_brought {g : Bool} {P : Program} {w : World} {K : PySem.W.Frag} {mg : Str → Option Value} {base : Heap} (G : Glo K mg) (c__law_bit : CalG g P w K mg base 1 "_law_bit" S__law_bit 1)  (J : GJ) {fa : Addr} {cd : Value} {A : Around} {outer : List Env} {s : Shared} {H : Hp} {E : XK} (hr : Rm g 1 (A.deeper (envOfC "_law_brought" (defScope st__law_brought) s.heap.objs.size fa cd))) :
    DSs (cxOf L2.CX0 P w K mg base N__law_brought "_law_brought" (defScope st__law_brought) fa cd A outer s H E).nox J (defBody st__law_brought) (w__law_brought J) := by
  have nd : N__law_brought.Nodup := sc__law_brought.nd
  have u64 := hr.rm.units
  have u65 : (A.deeper (envOfC "_law_brought" (defScope st__law_brought) s.heap.objs.size fa cd)).units + 65 < cLine := by have := hr.rm.un; omega
  have u1 : (A.deeper (envOfC "_law_brought" (defScope st__law_brought) s.heap.objs.size fa cd)).units + 1 < cLine := by have := hr.rm.un; omega
  exact (dss_cons (ds_par rfl nd rfl rfl (by decide) rfl rfl (dv_rep (de_lst (da_cons (db_of de_int) da_nil)) (de_callB cd_len (by rfl) G.b_len PySem.boot_len (da_cons (db_var 1 (pv 1)) da_nil))) (dv_of de_int) rfl) (dss_cons (ds_for PassesOwn.never rfl (di_seq (de_var 1 (pv 1))) (dg_name 4 (L2.pg_name nd rfl (by first | exact .inl rfl | exact .inr rfl))) (dss_cons (ds_asg (de_op od_sub (db_of (de_ix od_ix (db_var 0 (pv 0)) (db_of (de_op od_bor (db_var 3 (pv 3)) (db_of (de_call c__law_bit hr (by decide) (by rfl) (da_cons (db_of (de_var 4 (pv 4))) da_nil))))) (fun _ _ => rfl))) (db_of (de_ix od_ix (db_var 0 (pv 0)) (db_var 3 (pv 3)) (fun _ _ => rfl)))) (dg_ixL (pv 2) (de_var 4 (pv 4)))) (dss_one (ds_set nd rfl (by first | exact .inl rfl | exact .inr rfl) (dv_of (de_op od_bor (db_var 3 (pv 3)) (db_of (de_call c__law_bit hr (by decide) (by rfl) (da_cons (db_of (de_var 4 (pv 4))) da_nil))))))))) (dss_one (ds_ret (de_callTy cd_tuple (by rfl) G.b_tuple PyProof.Rows.boot_tuple (da_cons (db_var 2 (pv 2)) da_nil))))))
theorem c__law_brought {g : Bool} {P : Program} {w : World} {K : PySem.W.Frag} {mg : Str → Option Value} {base : Heap} (G : Glo K mg) (c__law_bit : CalG g P w K mg base 1 "_law_bit" S__law_bit 1)  {f : Addr} {fd : FuncData} (Fu : L2.Fun K "_law_brought" "_law_brought" st__law_brought f fd) (hm : mg "_law_brought" = some (.ref f)) (hb : Binds K fd ["worths", "order"] []) (ver : ∀ (J : GJ) (ds : List D) (q : D → Prop), ds.length = 2 → S__law_brought J ds q → w__law_brought J (startE N__law_brought ds) { nx := fun _ => q .non, rt := fun d _ => q d }) : CalG g P w K mg base 2 "_law_brought" S__law_brought 2 :=
  cal_D Fu sc__law_brought hm hb (fun J cd A outer s H E hr => b__law_brought G c__law_bit J hr) ver

/-! ### _law_is_refused: slots 0 hand, 1 gain, 2 n, 3 bad -/
abbrev st__law_is_refused : Stmt := topS 35
abbrev N__law_is_refused : List Str := ["hand", "gain", "n", "bad"]
theorem sc__law_is_refused : FnScope N__law_is_refused ["hand", "gain", "n"] (defScope st__law_is_refused) := ⟨rfl, rfl, rfl, by decide +kernel, rfl, by decide +kernel, by decide +kernel⟩
def w__law_is_refused (J : GJ) : WS := sSeq (sSet 3 (wVal (wLst (wCons (wOf (wC .non)) (wCons (wOf (wLRg (wVar 2))) (wCons (wOf (wTRg (w2 oAdd (wB 2) (wOf (wC (.int 1)))))) (wCons (wOf (w2 oMulA (wOf (wTup (wCons (wOf (wC (.int 0))) wNil))) (wOf (w2 oAdd (wB 2) (wOf (wC (.int 1))))))) (wCons (wOf (wTup (wCons (wOf (wVar 2)) wNil))) (wCons (wOf (wC (.str "0"))) (wCons (wOf (w2 oMulA (wOf (wTup (wCons (wOf (wC (.bl true))) wNil))) (wB 2))) (wCons (wOf (w2 oMulA (wOf (wTup (wCons (wOf (w1 oNeg (wOf (wC (.int 1))))) wNil))) (wB 2))) wNil))))))))))) (sSeq (sSet 3 (wVal (wCall J S__law_some 2 (wCons (wOf (wVar 0)) (wCons (wOf (wVar 3)) wNil))))) (sSeq (sTry0 mtL (sCallX J SX_brings 2 (wCons (wOf (wVar 1)) (wCons (wOf (wVar 3)) wNil))) [("NoOrder", (sRet (wC (.bl true)))), ("PlayError", (sRet (wC (.bl false))))]) (sRet (wC (.bl false)))))
theorem b__law_is_refused {g : Bool} {P : Program} {w : World} {K : PySem.W.Frag} {mg : Str → Option Value} {base : Heap} (G : Glo K mg) (c__law_some : CalG g P w K mg base 2 "_law_some" S__law_some 2) (cx_brings : CalX g P w K mg base 4 "brings" SX_brings 2) (J : GJ) {fa : Addr} {cd : Value} {A : Around} {outer : List Env} {s : Shared} {H : Hp} {E : XK} (hr : Rm g 4 (A.deeper (envOfC "_law_is_refused" (defScope st__law_is_refused) s.heap.objs.size fa cd))) :
    DSs (cxOf L2.CX0 P w K mg base N__law_is_refused "_law_is_refused" (defScope st__law_is_refused) fa cd A outer s H E).nox J (defBody st__law_is_refused) (w__law_is_refused J) := by
  have nd : N__law_is_refused.Nodup := sc__law_is_refused.nd
  have u64 := hr.rm.units
  have u65 : (A.deeper (envOfC "_law_is_refused" (defScope st__law_is_refused) s.heap.objs.size fa cd)).units + 65 < cLine := by have := hr.rm.un; omega
  have u1 : (A.deeper (envOfC "_law_is_refused" (defScope st__law_is_refused) s.heap.objs.size fa cd)).units + 1 < cLine := by have := hr.rm.un; omega
  exact (dss_cons (ds_set nd rfl (by first | exact .inl rfl | exact .inr rfl) (dv_of (de_lst (da_cons (db_of de_non) (da_cons (db_of (de_lrg rfl rfl G.b_list rfl G.b_range (de_var 2 (pv 2)))) (da_cons (db_of (de_trg rfl rfl G.b_tuple rfl G.b_range (de_op od_add (db_var 2 (pv 2)) (db_of de_int)))) (da_cons (db_of (de_op od_mulA (db_of (de_tup (da_cons (db_of de_int) da_nil))) (db_of (de_op od_add (db_var 2 (pv 2)) (db_of de_int))))) (da_cons (db_of (de_tup (da_cons (db_of (de_var 2 (pv 2))) da_nil))) (da_cons (db_of de_str) (da_cons (db_of (de_op od_mulA (db_of (de_tup (da_cons (db_of de_bl) da_nil))) (db_var 2 (pv 2)))) (da_cons (db_of (de_op od_mulA (db_of (de_tup (da_cons (db_of (de_un ud_neg (db_of de_int))) da_nil))) (db_var 2 (pv 2)))) da_nil))))))))))) (dss_cons (ds_set nd rfl (by first | exact .inl rfl | exact .inr rfl) (dv_of (de_call c__law_some hr (by decide) (by rfl) (da_cons (db_of (de_var 0 (pv 0))) (da_cons (db_of (de_var 3 (pv 3))) da_nil))))) (dss_cons (ds_try rfl rfl G.mt (fun W pn xe tk _ => (dxs_one (dx_call cx_brings hr (by decide) (by rfl) tk (da_cons (db_of (de_var 1 (pv 1))) (da_cons (db_of (de_var 3 (pv 3))) da_nil))))) (HsOk.cons rfl (by decide) G.x_NoOrder (fun _ _ => (dss_one (ds_ret de_bl))) (HsOk.cons rfl (by decide) G.x_PlayError (fun _ _ => (dss_one (ds_ret de_bl))) HsOk.nil))) (dss_one (ds_ret de_bl)))))
theorem c__law_is_refused {g : Bool} {P : Program} {w : World} {K : PySem.W.Frag} {mg : Str → Option Value} {base : Heap} (G : Glo K mg) (c__law_some : CalG g P w K mg base 2 "_law_some" S__law_some 2) (cx_brings : CalX g P w K mg base 4 "brings" SX_brings 2) {f : Addr} {fd : FuncData} (Fu : L2.Fun K "_law_is_refused" "_law_is_refused" st__law_is_refused f fd) (hm : mg "_law_is_refused" = some (.ref f)) (hb : Binds K fd ["hand", "gain", "n"] []) (ver : ∀ (J : GJ) (ds : List D) (q : D → Prop), ds.length = 3 → S__law_is_refused J ds q → w__law_is_refused J (startE N__law_is_refused ds) { nx := fun _ => q .non, rt := fun d _ => q d }) : CalG g P w K mg base 5 "_law_is_refused" S__law_is_refused 3 :=
  cal_D Fu sc__law_is_refused hm hb (fun J cd A outer s H E hr => b__law_is_refused G c__law_some cx_brings J hr) ver

/-! ### _law_is_right: slots 0 hand, 1 n, 2 worths, 3 every, 4 gain, 5 many, 6 brought, 7 order, 8 due, 9 row, 10 one, 11 parts, 12 k, 13 less, 14 rising, 15 j, 16 apart, 17 the_both, 18 counts, 19 bit, 20 other -/
abbrev st__law_is_right : Stmt := topS 34
abbrev N__law_is_right : List Str := ["hand", "n", "worths", "every", "gain", "many", "brought", "order", "due", "row", "one", "parts", "k", "less", "rising", "j", "apart", "the_both", "counts", "bit", "other"]
theorem sc__law_is_right : FnScope N__law_is_right ["hand"] (defScope st__law_is_right) := ⟨rfl, rfl, rfl, by decide +kernel, rfl, by decide +kernel, by decide +kernel⟩
def w__law_is_right (J : GJ) : WS := sSeq (sSet 1 (wVal (w2 oAdd (wOf (wC (.int 1))) (wOf (wCall J S__law_draw 2 (wCons (wOf (wVar 0)) (wCons (wOf (wC (.int 4))) wNil))))))) (sSeq (sPar 2 3 (wVal (wCall J S__law_worths 2 (wCons (wOf (wVar 0)) (wCons (wOf (wVar 1)) wNil)))) (wVal (wCall J S__law_orders 1 (wCons (wOf (wVar 1)) wNil)))) (sSeq (sPar 4 5 (wVal (wCall J S_Gain 2 (wCons (wOf (wVar 1)) (wCons (wOf (wVar 2)) wNil)))) (wVal (w2 oIx (wOf (wLst (wCons (wOf (wC (.int 1))) (wCons (wOf (wC (.int 2))) (wCons (wOf (wC (.int 4))) (wCons (wOf (wC (.int 8))) (wCons (wOf (wC (.int 16))) wNil))))))) (wB 1)))) (sSeq (sSet 6 (wVal (wLC [7] (wIs (wVar 3)) (gN 7) wYes (wCall J S__law_brought 2 (wCons (wOf (wVar 2)) (wCons (wOf (wVar 7)) wNil)))))) (sSeq (sIf (wTB (w2 oNe (wOf (wPr oRepr (wCons (wOf (wLC [7] (wIs (wVar 3)) (gN 7) wYes (wCall J S_brings 2 (wCons (wOf (wVar 4)) (wCons (wOf (wVar 7)) wNil))))) wNil))) (wOf (wPr oRepr (wCons (wB 6) wNil))))) (sRet (wC (.bl false))) sNil) (sSeq (sSet 8 (wVal (wPr oTuple (wCons (wOf (wLC [10] (wR1 (wCons (wOf (wVar 1)) wNil)) (gN 10) wYes (wCall J S__law_fraction 2 (wCons (wOf (wPr oSumA (wCons (wOf (wLC [9] (wIs (wVar 6)) (gN 9) wYes (w2 oIx (wB 9) (wB 10)))) wNil))) (wCons (wOf (wPr oLen (wCons (wB 3) wNil))) wNil))))) wNil)))) (sSeq (sIf (wTB (w2 oNe (wOf (wPr oRepr (wCons (wOf (wCall J S_shapley 1 (wCons (wOf (wVar 4)) wNil))) wNil))) (wOf (wPr oRepr (wCons (wB 8) wNil))))) (sRet (wC (.bl false))) sNil) (sSeq (sSet 11 (wNewL wNil)) (sSeq (sFor (wR1 (wCons (wOf (wVar 5)) wNil)) (gN 12) (sDrop (wApp 11 (w2 oSub (wOf (w2 oIx (wB 2) (wB 12))) (wOf (wPr oSumA (wCons (wOf (wLC [13] (wR1 (wCons (wOf (wVar 12)) wNil)) (gN 13) (wTB (w2 oEq (wOf (w2 oBand (wB 13) (wB 12))) (wB 13))) (w2 oIx (wB 11) (wB 13)))) wNil))))))) (sSeq (sIf (wTB (w2 oNe (wOf (wPr oRepr (wCons (wOf (wCall J S_dividends 1 (wCons (wOf (wVar 4)) wNil))) wNil))) (wOf (wPr oRepr (wCons (wOf (wPr oTuple (wCons (wB 11) wNil))) wNil))))) (sRet (wC (.bl false))) sNil) (sSeq (sSet 14 (wVal (wC (.bl true)))) (sSeq (sFor (wR1 (wCons (wOf (wVar 5)) wNil)) (gN 12) (sFor (wR1 (wCons (wOf (wVar 5)) wNil)) (gN 15) (sSeq (sSet 16 (wVal (w2 oAdd (wOf (w2 oIx (wB 2) (wB 12))) (wOf (w2 oIx (wB 2) (wB 15)))))) (sSeq (sSet 17 (wVal (w2 oIx (wB 2) (wOf (w2 oBor (wB 12) (wB 15)))))) (sSet 14 (wVal (wAnd (wVar 14) (w2 oLe (wB 16) (wOf (w2 oAdd (wB 17) (wOf (w2 oIx (wB 2) (wOf (w2 oBand (wB 12) (wB 15))))))))))))))) (sSeq (sSet 18 (wNewL wNil)) (sSeq (sFor (wR1 (wCons (wOf (wVar 1)) wNil)) (gN 10) (sSeq (sSet 19 (wVal (wCall J S__law_bit 1 (wCons (wOf (wVar 10)) wNil)))) (sDrop (wApp 18 (wPr oLen (wCons (wOf (wLC [12] (wR1 (wCons (wOf (wVar 5)) wNil)) (gN 12) (wTAnd (wTB (w2 oEq (wOf (w2 oBand (wB 12) (wB 19))) (wOf (wC (.int 0))))) (wTB (w2 oGt (wOf (w2 oIx (wB 2) (wOf (w2 oBor (wB 12) (wB 19))))) (wOf (w2 oIx (wB 2) (wB 12)))))) (wVar 12))) wNil)))))) (sSeq (sIf (wTB (w2 oNe (wOf (wPr oRepr (wCons (wOf (wLst (wCons (wOf (wCall J S_is_rising 1 (wCons (wOf (wVar 4)) wNil))) (wCons (wOf (wCall J S_swings 1 (wCons (wOf (wVar 4)) wNil))) wNil)))) wNil))) (wOf (wPr oRepr (wCons (wOf (wLst (wCons (wOf (wVar 14)) (wCons (wOf (wPr oTuple (wCons (wB 18) wNil))) wNil)))) wNil))))) (sRet (wC (.bl false))) sNil) (sSeq (sSet 20 (wVal (wCall J S_Gain 2 (wCons (wOf (wVar 1)) (wCons (wOf (wVar 2)) wNil))))) (sSeq (sIf (wTOr (wTB (w2 oIsBn (wOf (w2 (oEqC "Gain" J S_Gain_eq) (wB 4) (wB 20))) (wOf (wC (.bl true))))) (wTOr (wTB (w2 oNe (wOf (wTup (wCons (wOf (wFld "Gain" "n" (wVar 4))) (wCons (wOf (wFld "Gain" "worths" (wVar 4))) wNil)))) (wOf (wTup (wCons (wOf (wVar 1)) (wCons (wOf (wVar 2)) wNil)))))) (wTB (w2 oIsBn (wOf (w2 (oEqC "Gain" J S_Gain_eq) (wB 4) (wOf (wTup (wCons (wOf (wVar 1)) (wCons (wOf (wVar 2)) wNil)))))) (wOf (wC (.bl false))))))) (sRet (wC (.bl false))) sNil) (sRet (wCall J S__law_is_refused 3 (wCons (wOf (wVar 0)) (wCons (wOf (wVar 4)) (wCons (wOf (wVar 1)) wNil)))))))))))))))))))))
theorem b__law_is_right {P : Program} {w : World} {K : PySem.W.Frag} {mg : Str → Option Value} {base : Heap} (G : Glo K mg) (c__law_draw : CalG true P w K mg base 1 "_law_draw" S__law_draw 2) (c__law_worths : CalG true P w K mg base 3 "_law_worths" S__law_worths 2) (c__law_orders : CalG true P w K mg base 1 "_law_orders" S__law_orders 1) (k_Gain : CalC P w K mg base 3 "Gain" S_Gain 2) (c__law_brought : CalG true P w K mg base 2 "_law_brought" S__law_brought 2) (c_brings : CalG true P w K mg base 4 "brings" S_brings 2) (c__law_fraction : CalG true P w K mg base 2 "_law_fraction" S__law_fraction 2) (c_shapley : CalG true P w K mg base 3 "shapley" S_shapley 1) (c_dividends : CalG true P w K mg base 2 "dividends" S_dividends 1) (c__law_bit : CalG true P w K mg base 1 "_law_bit" S__law_bit 1) (c_is_rising : CalG true P w K mg base 2 "is_rising" S_is_rising 1) (c_swings : CalG true P w K mg base 2 "swings" S_swings 1) (e_Gain : CalE P w K mg base 1 "Gain" S_Gain_eq) (c__law_is_refused : CalG true P w K mg base 5 "_law_is_refused" S__law_is_refused 3)  (J : GJ) {fa : Addr} {cd : Value} {A : Around} {outer : List Env} {s : Shared} {H : Hp} {E : XK} (hr : Rm true 5 (A.deeper (envOfC "_law_is_right" (defScope st__law_is_right) s.heap.objs.size fa cd))) :
    DSs (cxOf L2.CX0 P w K mg base N__law_is_right "_law_is_right" (defScope st__law_is_right) fa cd A outer s H E).nox J (defBody st__law_is_right) (w__law_is_right J) := by
  have nd : N__law_is_right.Nodup := sc__law_is_right.nd
  have gd := hr.gd rfl
  have u64 := hr.rm.units
  have u65 : (A.deeper (envOfC "_law_is_right" (defScope st__law_is_right) s.heap.objs.size fa cd)).units + 65 < cLine := by have := hr.rm.un; omega
  have u1 : (A.deeper (envOfC "_law_is_right" (defScope st__law_is_right) s.heap.objs.size fa cd)).units + 1 < cLine := by have := hr.rm.un; omega
  exact (dss_cons (ds_set nd rfl (by first | exact .inl rfl | exact .inr rfl) (dv_of (de_op od_add (db_of de_int) (db_of (de_call c__law_draw hr (by decide) (by rfl) (da_cons (db_of (de_var 0 (pv 0))) (da_cons (db_of de_int) da_nil))))))) (dss_cons (ds_parT rfl nd (by decide) (L2.pg_name nd rfl (by first | exact .inl rfl | exact .inr rfl)) (L2.pg_name nd rfl (by first | exact .inl rfl | exact .inr rfl)) (dv_of (de_call c__law_worths hr (by decide) (by rfl) (da_cons (db_of (de_var 0 (pv 0))) (da_cons (db_of (de_var 1 (pv 1))) da_nil)))) (dv_of (de_call c__law_orders hr (by decide) (by rfl) (da_cons (db_of (de_var 1 (pv 1))) da_nil)))) (dss_cons (ds_parT rfl nd (by decide) (L2.pg_name nd rfl (by first | exact .inl rfl | exact .inr rfl)) (L2.pg_name nd rfl (by first | exact .inl rfl | exact .inr rfl)) (dv_of (de_make k_Gain hr (by decide) (by rfl) (da_cons (db_of (de_var 1 (pv 1))) (da_cons (db_of (de_var 2 (pv 2))) da_nil)))) (dv_of (de_ix od_ix (db_of (de_lst (da_cons (db_of de_int) (da_cons (db_of de_int) (da_cons (db_of de_int) (da_cons (db_of de_int) (da_cons (db_of de_int) da_nil))))))) (db_var 1 (pv 1)) (fun _ _ => rfl)))) (dss_cons (ds_set nd rfl (by first | exact .inl rfl | exact .inr rfl) (dv_of (de_lc rfl nd (di_seq (de_var 3 (pv 3))) (blkOk_by (own := [("order", 7)]) (by kernel_rfl)) (fun _ _ _ _ _ => (dg_name 7 (L2.pg_name nd rfl (by first | exact .inl rfl | exact .inr rfl)))) (fun _ _ _ _ _ => dts_nil) (fun _ _ _ _ _ => (de_call c__law_brought hr (by decide) (by rfl) (da_cons (db_of (de_var 2 (pv 2))) (da_cons (db_of (de_var 7 (pv 7))) da_nil))))))) (dss_cons (ds_if (dt_cmp (od_ne u64) (db_of (de_callB (cd_repr gd u64) (by rfl) G.b_repr PyProof.Rows.boot_repr (da_cons (db_of (de_lc rfl nd (di_seq (de_var 3 (pv 3))) (blkOk_by (own := [("order", 7)]) (by kernel_rfl)) (fun _ _ _ _ _ => (dg_name 7 (L2.pg_name nd rfl (by first | exact .inl rfl | exact .inr rfl)))) (fun _ _ _ _ _ => dts_nil) (fun _ _ _ _ _ => (de_call c_brings hr (by decide) (by rfl) (da_cons (db_of (de_var 4 (pv 4))) (da_cons (db_of (de_var 7 (pv 7))) da_nil)))))) da_nil))) (db_of (de_callB (cd_repr gd u64) (by rfl) G.b_repr PyProof.Rows.boot_repr (da_cons (db_var 6 (pv 6)) da_nil))) (by with_unfolding_all rfl)) (dss_one (ds_ret de_bl)) dss_nil) (dss_cons (ds_set nd rfl (by first | exact .inl rfl | exact .inr rfl) (dv_of (de_callTy cd_tuple (by rfl) G.b_tuple PyProof.Rows.boot_tuple (da_cons (db_of (de_lc rfl nd (di_r1 (by rfl) G.b_range (da_cons (db_of (de_var 1 (pv 1))) da_nil)) (blkOk_by (own := [("one", 10)]) (by kernel_rfl)) (fun _ _ _ _ _ => (dg_name 10 (L2.pg_name nd rfl (by first | exact .inl rfl | exact .inr rfl)))) (fun _ _ _ _ _ => dts_nil) (fun _ _ _ _ _ => (de_call c__law_fraction hr (by decide) (by rfl) (da_cons (db_of (de_callB (cd_sumA rfl) (by rfl) G.b_sum PyProof.Rows.boot_sum (da_cons (db_of (de_lc rfl nd (di_seq (de_var 6 (pv 6))) (blkOk_by (own := [("row", 9)]) (by kernel_rfl)) (fun _ _ _ _ _ => (dg_name 9 (L2.pg_name nd rfl (by first | exact .inl rfl | exact .inr rfl)))) (fun _ _ _ _ _ => dts_nil) (fun _ _ _ _ _ => (de_ix od_ix (db_var 9 (pv 9)) (db_var 10 (pv 10)) (fun _ _ => rfl))))) da_nil))) (da_cons (db_of (de_callB cd_len (by rfl) G.b_len PySem.boot_len (da_cons (db_var 3 (pv 3)) da_nil))) da_nil)))))) da_nil)))) (dss_cons (ds_if (dt_cmp (od_ne u64) (db_of (de_callB (cd_repr gd u64) (by rfl) G.b_repr PyProof.Rows.boot_repr (da_cons (db_of (de_call c_shapley hr (by decide) (by rfl) (da_cons (db_of (de_var 4 (pv 4))) da_nil))) da_nil))) (db_of (de_callB (cd_repr gd u64) (by rfl) G.b_repr PyProof.Rows.boot_repr (da_cons (db_var 8 (pv 8)) da_nil))) (by with_unfolding_all rfl)) (dss_one (ds_ret de_bl)) dss_nil) (dss_cons (ds_set nd rfl (by first | exact .inl rfl | exact .inr rfl) (dv_lst da_nil)) (dss_cons (ds_for PassesOwn.never rfl (di_r1 (by rfl) G.b_range (da_cons (db_of (de_var 5 (pv 5))) da_nil)) (dg_name 12 (L2.pg_name nd rfl (by first | exact .inl rfl | exact .inr rfl))) (dss_one (ds_expr (de_app (pv 11) (de_op od_sub (db_of (de_ix od_ix (db_var 2 (pv 2)) (db_var 12 (pv 12)) (fun _ _ => rfl))) (db_of (de_callB (cd_sumA rfl) (by rfl) G.b_sum PyProof.Rows.boot_sum (da_cons (db_of (de_lc rfl nd (di_r1 (by rfl) G.b_range (da_cons (db_of (de_var 12 (pv 12))) da_nil)) (blkOk_by (own := [("less", 13)]) (by kernel_rfl)) (fun _ _ _ _ _ => (dg_name 13 (L2.pg_name nd rfl (by first | exact .inl rfl | exact .inr rfl)))) (fun _ _ _ _ _ => dts_one (dt_cmp (od_eq u64) (db_of (de_op od_band (db_var 13 (pv 13)) (db_var 12 (pv 12)))) (db_var 13 (pv 13)) (by with_unfolding_all rfl))) (fun _ _ _ _ _ => (de_ix od_ix (db_var 11 (pv 11)) (db_var 13 (pv 13)) (fun _ _ => rfl))))) da_nil)))))))) (dss_cons (ds_if (dt_cmp (od_ne u64) (db_of (de_callB (cd_repr gd u64) (by rfl) G.b_repr PyProof.Rows.boot_repr (da_cons (db_of (de_call c_dividends hr (by decide) (by rfl) (da_cons (db_of (de_var 4 (pv 4))) da_nil))) da_nil))) (db_of (de_callB (cd_repr gd u64) (by rfl) G.b_repr PyProof.Rows.boot_repr (da_cons (db_of (de_callTy cd_tuple (by rfl) G.b_tuple PyProof.Rows.boot_tuple (da_cons (db_var 11 (pv 11)) da_nil))) da_nil))) (by with_unfolding_all rfl)) (dss_one (ds_ret de_bl)) dss_nil) (dss_cons (ds_set nd rfl (by first | exact .inl rfl | exact .inr rfl) (dv_of de_bl)) (dss_cons (ds_for PassesOwn.never rfl (di_r1 (by rfl) G.b_range (da_cons (db_of (de_var 5 (pv 5))) da_nil)) (dg_name 12 (L2.pg_name nd rfl (by first | exact .inl rfl | exact .inr rfl))) (dss_one (ds_for PassesOwn.never rfl (di_r1 (by rfl) G.b_range (da_cons (db_of (de_var 5 (pv 5))) da_nil)) (dg_name 15 (L2.pg_name nd rfl (by first | exact .inl rfl | exact .inr rfl))) (dss_cons (ds_set nd rfl (by first | exact .inl rfl | exact .inr rfl) (dv_of (de_op od_add (db_of (de_ix od_ix (db_var 2 (pv 2)) (db_var 12 (pv 12)) (fun _ _ => rfl))) (db_of (de_ix od_ix (db_var 2 (pv 2)) (db_var 15 (pv 15)) (fun _ _ => rfl)))))) (dss_cons (ds_set nd rfl (by first | exact .inl rfl | exact .inr rfl) (dv_of (de_ix od_ix (db_var 2 (pv 2)) (db_of (de_op od_bor (db_var 12 (pv 12)) (db_var 15 (pv 15)))) (fun _ _ => rfl)))) (dss_one (ds_set nd rfl (by first | exact .inl rfl | exact .inr rfl) (dv_of (de_and (de_var 14 (pv 14)) (de_one (de_cmp od_le (db_var 16 (pv 16)) (db_of (de_op od_add (db_var 17 (pv 17)) (db_of (de_ix od_ix (db_var 2 (pv 2)) (db_of (de_op od_band (db_var 12 (pv 12)) (db_var 15 (pv 15)))) (fun _ _ => rfl))))) (by with_unfolding_all rfl)))))))))))) (dss_cons (ds_set nd rfl (by first | exact .inl rfl | exact .inr rfl) (dv_lst da_nil)) (dss_cons (ds_for PassesOwn.never rfl (di_r1 (by rfl) G.b_range (da_cons (db_of (de_var 1 (pv 1))) da_nil)) (dg_name 10 (L2.pg_name nd rfl (by first | exact .inl rfl | exact .inr rfl))) (dss_cons (ds_set nd rfl (by first | exact .inl rfl | exact .inr rfl) (dv_of (de_call c__law_bit hr (by decide) (by rfl) (da_cons (db_of (de_var 10 (pv 10))) da_nil)))) (dss_one (ds_expr (de_app (pv 18) (de_callB cd_len (by rfl) G.b_len PySem.boot_len (da_cons (db_of (de_lc rfl nd (di_r1 (by rfl) G.b_range (da_cons (db_of (de_var 5 (pv 5))) da_nil)) (blkOk_by (own := [("k", 12)]) (by kernel_rfl)) (fun _ _ _ _ _ => (dg_name 12 (L2.pg_name nd rfl (by first | exact .inl rfl | exact .inr rfl)))) (fun _ _ _ _ _ => dts_one (dt_of (dw_and (dt_cmp (od_eq u64) (db_of (de_op od_band (db_var 12 (pv 12)) (db_var 19 (pv 19)))) (db_of de_int) (by with_unfolding_all rfl)) (dw_and1 (dt_cmp od_gt (db_of (de_ix od_ix (db_var 2 (pv 2)) (db_of (de_op od_bor (db_var 12 (pv 12)) (db_var 19 (pv 19)))) (fun _ _ => rfl))) (db_of (de_ix od_ix (db_var 2 (pv 2)) (db_var 12 (pv 12)) (fun _ _ => rfl))) (by with_unfolding_all rfl)))))) (fun _ _ _ _ _ => (de_var 12 (pv 12))))) da_nil))))))) (dss_cons (ds_if (dt_cmp (od_ne u64) (db_of (de_callB (cd_repr gd u64) (by rfl) G.b_repr PyProof.Rows.boot_repr (da_cons (db_of (de_lst (da_cons (db_of (de_call c_is_rising hr (by decide) (by rfl) (da_cons (db_of (de_var 4 (pv 4))) da_nil))) (da_cons (db_of (de_call c_swings hr (by decide) (by rfl) (da_cons (db_of (de_var 4 (pv 4))) da_nil))) da_nil)))) da_nil))) (db_of (de_callB (cd_repr gd u64) (by rfl) G.b_repr PyProof.Rows.boot_repr (da_cons (db_of (de_lst (da_cons (db_of (de_var 14 (pv 14))) (da_cons (db_of (de_callTy cd_tuple (by rfl) G.b_tuple PyProof.Rows.boot_tuple (da_cons (db_var 18 (pv 18)) da_nil))) da_nil)))) da_nil))) (by with_unfolding_all rfl)) (dss_one (ds_ret de_bl)) dss_nil) (dss_cons (ds_set nd rfl (by first | exact .inl rfl | exact .inr rfl) (dv_of (de_make k_Gain hr (by decide) (by rfl) (da_cons (db_of (de_var 1 (pv 1))) (da_cons (db_of (de_var 2 (pv 2))) da_nil))))) (dss_cons (ds_if (dt_of (dw_or (dt_cmp od_isBn (db_of (de_cmp (od_eqC e_Gain hr (by decide)) (db_var 4 (pv 4)) (db_var 20 (pv 20)) (by with_unfolding_all rfl))) (db_of de_bl) (by with_unfolding_all rfl)) (dw_or (dt_cmp (od_ne u64) (db_of (de_tup (da_cons (db_of (de_fld (cls_fld G.k_Gain (by decide)) (de_var 4 (pv 4)) rfl)) (da_cons (db_of (de_fld (cls_fld G.k_Gain (by decide)) (de_var 4 (pv 4)) rfl)) da_nil)))) (db_of (de_tup (da_cons (db_of (de_var 1 (pv 1))) (da_cons (db_of (de_var 2 (pv 2))) da_nil)))) (by with_unfolding_all rfl)) (dw_or1 (dt_cmp od_isBn (db_of (de_cmp (od_eqC e_Gain hr (by decide)) (db_var 4 (pv 4)) (db_of (de_tup (da_cons (db_of (de_var 1 (pv 1))) (da_cons (db_of (de_var 2 (pv 2))) da_nil)))) (by with_unfolding_all rfl))) (db_of de_bl) (by with_unfolding_all rfl)))))) (dss_one (ds_ret de_bl)) dss_nil) (dss_one (ds_ret (de_call c__law_is_refused hr (by decide) (by rfl) (da_cons (db_of (de_var 0 (pv 0))) (da_cons (db_of (de_var 4 (pv 4))) (da_cons (db_of (de_var 1 (pv 1))) da_nil)))))))))))))))))))))))
theorem c__law_is_right {P : Program} {w : World} {K : PySem.W.Frag} {mg : Str → Option Value} {base : Heap} (G : Glo K mg) (c__law_draw : CalG true P w K mg base 1 "_law_draw" S__law_draw 2) (c__law_worths : CalG true P w K mg base 3 "_law_worths" S__law_worths 2) (c__law_orders : CalG true P w K mg base 1 "_law_orders" S__law_orders 1) (k_Gain : CalC P w K mg base 3 "Gain" S_Gain 2) (c__law_brought : CalG true P w K mg base 2 "_law_brought" S__law_brought 2) (c_brings : CalG true P w K mg base 4 "brings" S_brings 2) (c__law_fraction : CalG true P w K mg base 2 "_law_fraction" S__law_fraction 2) (c_shapley : CalG true P w K mg base 3 "shapley" S_shapley 1) (c_dividends : CalG true P w K mg base 2 "dividends" S_dividends 1) (c__law_bit : CalG true P w K mg base 1 "_law_bit" S__law_bit 1) (c_is_rising : CalG true P w K mg base 2 "is_rising" S_is_rising 1) (c_swings : CalG true P w K mg base 2 "swings" S_swings 1) (e_Gain : CalE P w K mg base 1 "Gain" S_Gain_eq) (c__law_is_refused : CalG true P w K mg base 5 "_law_is_refused" S__law_is_refused 3)  {f : Addr} {fd : FuncData} (Fu : L2.Fun K "_law_is_right" "_law_is_right" st__law_is_right f fd) (hm : mg "_law_is_right" = some (.ref f)) (hb : Binds K fd ["hand"] []) (ver : ∀ (J : GJ) (ds : List D) (q : D → Prop), ds.length = 1 → S__law_is_right J ds q → w__law_is_right J (startE N__law_is_right ds) { nx := fun _ => q .non, rt := fun d _ => q d }) : CalG true P w K mg base 6 "_law_is_right" S__law_is_right 1 :=
  cal_D Fu sc__law_is_right hm hb (fun J cd A outer s H E hr => b__law_is_right G c__law_draw c__law_worths c__law_orders k_Gain c__law_brought c_brings c__law_fraction c_shapley c_dividends c__law_bit c_is_rising c_swings e_Gain c__law_is_refused J hr) ver

/-! ### law: slots 0 script, 1 hand, 2 glove, 3 turn -/
abbrev st_law : Stmt := topS 36
abbrev N_law : List Str := ["script", "hand", "glove", "turn"]
theorem sc_law : FnScope N_law ["script"] (defScope st_law) := ⟨rfl, rfl, rfl, by decide +kernel, rfl, by decide +kernel, by decide +kernel⟩
def w_law (J : GJ) : WS := sSeq (sSet 2 (wVal (wCall J S_Gain 2 (wCons (wOf (wC (.int 3))) (wCons (wOf (wTup (wCons (wOf (wC (.int 0))) (wCons (wOf (wC (.int 0))) (wCons (wOf (wC (.int 0))) (wCons (wOf (wC (.int 0))) (wCons (wOf (wC (.int 0))) (wCons (wOf (wC (.int 1))) (wCons (wOf (wC (.int 1))) (wCons (wOf (wC (.int 1))) wNil)))))))))) wNil))))) (sSeq (sIf (wTOr (wTB (w2 oNe (wOf (wCall J S_shapley 1 (wCons (wOf (wVar 2)) wNil))) (wOf (wTup (wCons (wOf (wTup (wCons (wOf (wC (.int 1))) (wCons (wOf (wC (.int 6))) wNil)))) (wCons (wOf (wTup (wCons (wOf (wC (.int 1))) (wCons (wOf (wC (.int 6))) wNil)))) (wCons (wOf (wTup (wCons (wOf (wC (.int 2))) (wCons (wOf (wC (.int 3))) wNil)))) wNil))))))) (wTOr (wTB (w2 oNe (wOf (wCall J S_swings 1 (wCons (wOf (wVar 2)) wNil))) (wOf (wTup (wCons (wOf (wC (.int 1))) (wCons (wOf (wC (.int 1))) (wCons (wOf (wC (.int 3))) wNil))))))) (wTB (w2 oIsBn (wOf (wCall J S_is_rising 1 (wCons (wOf (wVar 2)) wNil))) (wOf (wC (.bl false))))))) (sRet (wC (.bl false))) sNil) (sRet (wPr oAll (wCons (wOf (wLC [3] (wR1 (wCons (wOf (wC (.int 6))) wNil)) (gN 3) wYes (wCall J S__law_is_right 1 (wCons (wOf (wVar 1)) wNil)))) wNil))))
theorem b_law {P : Program} {w : World} {K : PySem.W.Frag} {mg : Str → Option Value} {base : Heap} (G : Glo K mg) (k_Gain : CalC P w K mg base 3 "Gain" S_Gain 2) (c_shapley : CalG true P w K mg base 3 "shapley" S_shapley 1) (c_swings : CalG true P w K mg base 2 "swings" S_swings 1) (c_is_rising : CalG true P w K mg base 2 "is_rising" S_is_rising 1) (c__law_is_right : CalG true P w K mg base 6 "_law_is_right" S__law_is_right 1)  (J : GJ) {fa : Addr} {cd : Value} {A : Around} {outer : List Env} {s : Shared} {H : Hp} {E : XK} (hr : Rm true 6 (A.deeper (envOfC "law" (defScope st_law) s.heap.objs.size fa cd))) :
    DSs (cxOf L2.CX0 P w K mg base N_law "law" (defScope st_law) fa cd A outer s H E).nox J ((defBody st_law).drop 1) (w_law J) := by
  have nd : N_law.Nodup := sc_law.nd
  have gd := hr.gd rfl
  have u64 := hr.rm.units
  have u65 : (A.deeper (envOfC "law" (defScope st_law) s.heap.objs.size fa cd)).units + 65 < cLine := by have := hr.rm.un; omega
  have u1 : (A.deeper (envOfC "law" (defScope st_law) s.heap.objs.size fa cd)).units + 1 < cLine := by have := hr.rm.un; omega
  exact (dss_cons (ds_set nd rfl (by first | exact .inl rfl | exact .inr rfl) (dv_of (de_make k_Gain hr (by decide) (by rfl) (da_cons (db_of de_int) (da_cons (db_of (de_tup (da_cons (db_of de_int) (da_cons (db_of de_int) (da_cons (db_of de_int) (da_cons (db_of de_int) (da_cons (db_of de_int) (da_cons (db_of de_int) (da_cons (db_of de_int) (da_cons (db_of de_int) da_nil)))))))))) da_nil))))) (dss_cons (ds_if (dt_of (dw_or (dt_cmp (od_ne u64) (db_of (de_call c_shapley hr (by decide) (by rfl) (da_cons (db_of (de_var 2 (pv 2))) da_nil))) (db_of (de_tup (da_cons (db_of (de_tup (da_cons (db_of de_int) (da_cons (db_of de_int) da_nil)))) (da_cons (db_of (de_tup (da_cons (db_of de_int) (da_cons (db_of de_int) da_nil)))) (da_cons (db_of (de_tup (da_cons (db_of de_int) (da_cons (db_of de_int) da_nil)))) da_nil))))) (by with_unfolding_all rfl)) (dw_or (dt_cmp (od_ne u64) (db_of (de_call c_swings hr (by decide) (by rfl) (da_cons (db_of (de_var 2 (pv 2))) da_nil))) (db_of (de_tup (da_cons (db_of de_int) (da_cons (db_of de_int) (da_cons (db_of de_int) da_nil))))) (by with_unfolding_all rfl)) (dw_or1 (dt_cmp od_isBn (db_of (de_call c_is_rising hr (by decide) (by rfl) (da_cons (db_of (de_var 2 (pv 2))) da_nil))) (db_of de_bl) (by with_unfolding_all rfl)))))) (dss_one (ds_ret de_bl)) dss_nil) (dss_one (ds_ret (de_callB (cd_all rfl) (by rfl) G.b_all PyProof.Rows.boot_all (da_cons (db_of (de_lc rfl nd (di_r1 (by rfl) G.b_range (da_cons (db_of de_int) da_nil)) (blkOk_by (own := [("turn", 3)]) (by kernel_rfl)) (fun _ _ _ _ _ => (dg_name 3 (L2.pg_name nd rfl (by first | exact .inl rfl | exact .inr rfl)))) (fun _ _ _ _ _ => dts_nil) (fun _ _ _ _ _ => (de_call c__law_is_right hr (by decide) (by rfl) (da_cons (db_of (de_var 1 (pv 1))) da_nil))))) da_nil))))))

end DL

/-! F27: facts of few players. -/
namespace DL
open PySem PySem.Spec PyProof.Rows L2
structure OrdOk (n : Nat) (o : List Nat) : Prop where
  len : o.length = n
  nd : o.Nodup
  lt : ∀ i ∈ o, i < n
  mem : ∀ i, i < n → i ∈ o
def orN (l : List Nat) : Nat := l.foldl (fun a i => a ||| 2 ^ i) 0
theorem ord_dec : ∀ n, n < 5 → ∀ o ∈ ordN n n, o.length = n ∧ o.Nodup ∧ (∀ i ∈ o, i < n) ∧ (∀ i, i < n → i ∈ o) ∧ ∀ j, j < n + 1 → orN (o.take j) = numN (o.take j) ∧ numN (o.take j) < 2 ^ n := by decide +kernel
theorem ordOk {n : Nat} (h : n ≤ 4) {o : List Nat} (ho : o ∈ ordN n n) : OrdOk n o :=
  let ⟨h1, h2, h3, h4, _⟩ := ord_dec n (by omega) o ho
  ⟨h1, h2, h3, h4⟩
theorem ordNum {n : Nat} (h : n ≤ 4) {o : List Nat} (ho : o ∈ ordN n n) {j : Nat} (hj : j ≤ n) : orN (o.take j) = numN (o.take j) ∧ numN (o.take j) < 2 ^ n := (ord_dec n (by omega) o ho).2.2.2.2 j (by omega)
theorem ord_short : ∀ n, n < 5 → ∀ k, k < n + 1 → (ordN n k).length ≤ 24 ∧ ∀ o ∈ ordN n k, o.length = k ∧ o.length ≤ 4 ∧ ∀ i ∈ o, i < n := by decide +kernel
theorem ord_len : ∀ n, n < 5 → 0 < n → 0 < (ordN n n).length ∧ (ordN n n).length ≤ 24 := by decide +kernel
theorem ord_ne : ∀ n, n < 5 → 0 < n → ∀ k, k < n + 1 → ordN n k ≠ [] := by decide +kernel
def lotK (n k : Nat) : List Nat := (lotsN n).getD k []
theorem lots_map : ∀ n, n < 5 → lotsN n = (List.range (2 ^ n)).map (lotK n) := by decide +kernel
theorem lot_num : ∀ n, n < 5 → ∀ k, k < 2 ^ n → numN (lotK n k) = k ∧ (lotK n k).length ≤ 4 ∧ (∀ i ∈ lotK n k, i < n) := by decide +kernel
theorem lot_sub : ∀ n, n < 5 → ∀ k, k < 2 ^ n → ∀ o, o < k → ((lotK n o).all fun p => (lotK n k).contains p) = subN o k := by decide +kernel
theorem lot_or : ∀ n, n < 5 → ∀ k, k < 2 ^ n → ∀ j, j < 2 ^ n → numN ((List.range n).filter fun i => (lotK n k).contains i || (lotK n j).contains i) = (k ||| j) ∧ (k ||| j) < 2 ^ n := by decide +kernel
theorem lot_and : ∀ n, n < 5 → ∀ k, k < 2 ^ n → ∀ j, j < 2 ^ n → numN ((lotK n k).filter fun i => (lotK n j).contains i) = (k &&& j) ∧ (k &&& j) < 2 ^ n := by decide +kernel
theorem lot_bit : ∀ n, n < 5 → ∀ k, k < 2 ^ n → ∀ i, i < n → (!(lotK n k).contains i) = (k &&& 2 ^ i == 0) ∧ ((k &&& 2 ^ i == 0) = true → numN (lotK n k ++ [i]) = (k ||| 2 ^ i)) ∧ (k ||| 2 ^ i) < 2 ^ n := by decide +kernel
theorem pow_le : ∀ n, n < 5 → 2 ^ n ≤ 16 ∧ 1 ≤ 2 ^ n := by decide
theorem sub_zero : ∀ o, o < 16 → subN o 0 = (o == 0) := by decide
end DL

/-! V1 (k27): plain proofs of the short defs. -/
namespace DL
open PySem PySem.Spec PyProof.Rows L2
theorem v_is_integer (J : GJ) (ds : List D) (q : D → Prop) (_ : ds.length = 1) (h : S_is_integer J ds q) : w_is_integer J (startE N_is_integer ds) (EndQ q) := by
  rcases h with ⟨i, rfl, hq⟩ | ⟨b, rfl, hq⟩
  · simpa [w_is_integer, isiT] using hq
  · simpa [w_is_integer, isiT] using hq
theorem v_is_within (J : GJ) (ds : List D) (q : D → Prop) (_ : ds.length = 3) (h : S_is_within J ds q) : w_is_within J (startE N_is_within ds) (EndQ q) := by
  rcases h with ⟨i, lo, hi, rfl, hq⟩ | ⟨b, lo, hi, rfl, hq⟩
  · simp [w_is_within, S_is_integer]
    by_cases h1 : lo ≤ i
    · right
      simpa [h1] using hq
    · left
      exact ⟨by omega, by simpa [h1] using hq⟩
  · simpa [w_is_within, S_is_integer] using hq
theorem v_is_tuple (J : GJ) (ds : List D) (q : D → Prop) (_ : ds.length = 2) (h : S_is_tuple J ds q) : w_is_tuple J (startE N_is_tuple ds) (EndQ q) := by
  obtain ⟨d, n, rfl, ⟨xs, rfl, hq⟩ | ⟨hd, hq⟩⟩ := h
  · have e : ((xs.length : Int) == n) = decide ((xs.length : Int) = n) := by
      rw [Bool.eq_iff_iff, beq_iff_eq, decide_eq_true_eq]
    simpa [w_is_tuple, isiT, e] using hq
  · rcases hd with rfl | ⟨xs, rfl⟩ | ⟨x, rfl⟩
    · simpa [w_is_tuple, isiT] using hq
    · simpa [w_is_tuple, isiT] using hq
    · simpa [w_is_tuple, isiT] using hq
theorem atI_len {xs : List D} {r : Int} (h0 : 0 ≤ r) (h1 : r < xs.length) : ∃ x ∈ xs, atI xs r = some x := by
  have hr : r.toNat < xs.length := by omega
  have e := atI_nat (xs := xs) (List.getElem?_eq_getElem hr)
  rw [Int.toNat_of_nonneg h0] at e
  exact ⟨_, List.getElem_mem hr, e⟩
theorem v__law_some (J : GJ) (ds : List D) (q : D → Prop) (_ : ds.length = 2) (h : S__law_some J ds q) : w__law_some J (startE N__law_some ds) (EndQ q) := by
  obtain ⟨a, xs, rfl, hJ, hne, hl, hq⟩ := h
  have hp : 0 < xs.length := List.length_pos_iff.mpr hne
  simp [w__law_some, S__law_draw]
  refine ⟨a, xs.length, rfl, hJ, by omega, (by show (xs.length : Int) ≤ 200000000000000000001; omega), fun r h0 h1 => ?_⟩
  obtain ⟨x, hx, e⟩ := atI_len h0 h1
  exact ⟨x, e, hq x hx⟩
theorem gcdI_step {a b : Int} (h0 : 0 ≤ a) (h1 : 0 < b) : gcdI b (a % b) = gcdI a b := by
  obtain ⟨n, rfl⟩ := Int.eq_ofNat_of_zero_le h0
  obtain ⟨m, rfl⟩ := Int.eq_ofNat_of_zero_le (Int.le_of_lt h1)
  unfold gcdI
  have e : (n : Int) % (m : Int) = ((n % m : Nat) : Int) := rfl
  rw [e, Int.gcd_natCast_natCast, Int.gcd_natCast_natCast, Nat.gcd_comm n m, Nat.gcd_rec m n, Nat.gcd_comm]
theorem gcdI_zero {a : Int} (h0 : 0 ≤ a) : gcdI a 0 = a := by
  unfold gcdI
  rw [Int.gcd_zero_right]
  omega
theorem gcdI_pos {a b : Int} (h : 0 < b) : 0 < gcdI a b := by
  unfold gcdI
  have := Int.gcd_pos_of_ne_zero_right a (b := b) (by omega)
  omega
theorem gcdI_le {a b : Int} (h : 0 < b) : gcdI a b ≤ b := by
  unfold gcdI
  exact Int.le_of_dvd h (Int.gcd_dvd_right ..)
theorem gcdI_abs (a b : Int) : gcdI (if a < 0 then -a else a) b = gcdI a b := by
  unfold gcdI
  split <;> simp [Int.gcd]
theorem lt_big {b : Int} (h : b ≤ 1000) : b < 2 ^ 4096 := by
  have h1 : (1000 : Int) < 2 ^ 4096 := by decide +kernel
  exact Int.lt_of_le_of_lt h h1
/-- Euclid's loop, on two slots of an environment -/
theorem euclid {a b : Int} {e0 : List Sl → En} {wt : WT} {wb : WS} {E : DEnds} (mk : Int → Int → En) (h0 : 0 ≤ a) (h1 : 0 ≤ b) (ht : ∀ x y k, (0 < y → k true (mk x y)) → (¬ 0 < y → k false (mk x y)) → wt (mk x y) k) (hb : ∀ x y (E : DEnds), 0 ≤ x → 0 < y → E.nx (mk y (x % y)) → wb (mk x y) E)
    (hE : E.nx (mk (gcdI a b) 0)) : sWhile wt wb (mk a b) E := by
  refine ⟨fun m e => ∃ a' b' : Int, e = mk a' b' ∧ 0 ≤ a' ∧ 0 ≤ b' ∧ m = b'.toNat ∧ gcdI a' b' = gcdI a b, ⟨_, a, b, rfl, h0, h1, rfl, rfl⟩, ?_⟩
  rintro m e ⟨a', b', rfl, ha, hb', rfl, hg⟩
  refine ht a' b' _ (fun hp => ?_) fun hp => ?_
  · rw [if_pos rfl]
    refine hb a' b' _ ha hp ?_
    exact ⟨(a' % b').toNat, by have := Int.emod_lt_of_pos a' hp; have := Int.emod_nonneg a' (b := b') (by omega); omega, b', a' % b', rfl, hb', Int.emod_nonneg _ (by omega), rfl, by rw [gcdI_step ha hp, hg]⟩
  · rw [if_neg (by simp)]
    have : b' = 0 := by omega
    subst this
    rw [gcdI_zero ha] at hg
    rw [hg]
    exact hE
theorem v_divisor_of (J : GJ) (ds : List D) (q : D → Prop) (_ : ds.length = 2) (h : S_divisor_of J ds q) : w_divisor_of J (startE N_divisor_of ds) (EndQ q) := by
  obtain ⟨a, b, rfl, h0, h1, hq⟩ := h
  refine seq_step [.val (.int (gcdI a b)), .val (.int 0)] (fun E _ _ _ hE => ?_) (by simpa using hq)
  exact euclid (e0 := fun _ => []) (fun x y => [.val (.int x), .val (.int y)]) h0 h1 (fun x y k h1 h2 => by simp; by_cases hp : 0 < y; exact .inr ⟨hp, h1 hp⟩; exact .inl ⟨by omega, h2 hp⟩) (fun x y E h0 hp hk => by simp; exact ⟨hp, hk⟩) hE
theorem v_lowest (J : GJ) (ds : List D) (q : D → Prop) (_ : ds.length = 2) (h : S_lowest J ds q) : w_lowest J (startE N_lowest ds) (EndQ q) := by
  obtain ⟨a, b, rfl, b0, b1, hq⟩ := h
  have g0 := gcdI_pos (a := a) b0
  have g1 := gcdI_le (a := a) b0
  simp [w_lowest, S_divisor_of]
  refine .inl ⟨by omega, _, b, ⟨rfl, rfl⟩, by split <;> omega, by omega, ?_⟩
  rw [gcdI_abs]
  exact ⟨⟨g0, lt_big (by omega)⟩, hq⟩
theorem v__law_common (J : GJ) (ds : List D) (q : D → Prop) (_ : ds.length = 2) (h : S__law_common J ds q) : w__law_common J (startE N__law_common ds) (EndQ q) := by
  obtain ⟨a, b, rfl, b0, hq⟩ := h
  refine seq_step [.val (.int (if a < 0 then -a else a)), .val (.int b)] (fun E _ _ _ hE => ?_) ?_
  · have e : (if b < 0 then -b else b) = b := if_neg (by omega)
    simp [e]
    exact hE
  refine seq_step [.val (.int (gcdI a b)), .val (.int 0)] (fun E _ _ _ hE => ?_) (by simpa using hq)
  rw [← gcdI_abs] at hE
  exact euclid (e0 := fun _ => []) (fun x y => [.val (.int x), .val (.int y)]) (by split <;> omega) (by omega) (fun x y k h1 h2 => by simp; by_cases hp : 0 < y; exact .inr ⟨hp, h1 hp⟩; exact .inl ⟨by omega, h2 hp⟩) (fun x y E h0 hp hk => by simp; exact ⟨hp, hk⟩) hE
theorem v__law_fraction (J : GJ) (ds : List D) (q : D → Prop) (_ : ds.length = 2) (h : S__law_fraction J ds q) : w__law_fraction J (startE N__law_fraction ds) (EndQ q) := by
  obtain ⟨a, b, rfl, b0, b1, hq⟩ := h
  have g0 := gcdI_pos (a := a) b0
  have g1 := gcdI_le (a := a) b0
  simp [w__law_fraction, S__law_common]
  refine ⟨a, b, ⟨rfl, rfl⟩, b0, .inr ⟨b0, .inr ⟨by decide, by decide⟩, ⟨g0, lt_big (by omega)⟩, hq⟩⟩
theorem v__law_bit (J : GJ) (ds : List D) (q : D → Prop) (_ : ds.length = 1) (h : S__law_bit J ds q) : w__law_bit J (startE N__law_bit ds) (EndQ q) := by
  obtain ⟨i, rfl, hi, hq⟩ := h
  simp [w__law_bit]
  match i, hi with
  | 0, _ => exact ⟨_, rfl, hq⟩
  | 1, _ => exact ⟨_, rfl, hq⟩
  | 2, _ => exact ⟨_, rfl, hq⟩
  | 3, _ => exact ⟨_, rfl, hq⟩
theorem bit_at {i : Nat} (hi : i < 4) : atI [D.int 1, .int 2, .int 4, .int 8] (i : Nat) = some (.int ((2 ^ i : Nat) : Int)) := by
  match i, hi with
  | 0, _ => rfl
  | 1, _ => rfl
  | 2, _ => rfl
  | 3, _ => rfl
theorem two_at {n : Nat} (hi : n ≤ 4) : atI [D.int 1, .int 2, .int 4, .int 8, .int 16] (n : Nat) = some (.int ((2 ^ n : Nat) : Int)) := by
  match n, hi with
  | 0, _ => rfl
  | 1, _ => rfl
  | 2, _ => rfl
  | 3, _ => rfl
  | 4, _ => rfl
theorem sum_nat : ∀ l : List Nat, (l.map fun i => ((2 ^ i : Nat) : Int)).sum = (numN l : Nat)
  | [] => rfl
  | i :: l => by
    have := sum_nat l
    unfold numN at this ⊢
    simp only [List.map_cons, List.sum_cons, this]
    norm_cast
theorem v_number_of_lot (J : GJ) (ds : List D) (q : D → Prop) (_ : ds.length = 1) (h : S_number_of_lot J ds q) : w_number_of_lot J (startE N_number_of_lot ds) (EndQ q) := by
  obtain ⟨l, d, rfl, hd, hl, hs, hq⟩ := h
  have key : ∀ fin : List D → En → Prop, fin (l.map fun i => D.int ((2 ^ i : Nat) : Int)) [.val d, .no] → lcGo [1] (gN 1) wYes (w2 oIx (wOf (wLst (wCons (wOf (wC (.int 1))) (wCons (wOf (wC (.int 2))) (wCons (wOf (wC (.int 4))) (wCons (wOf (wC (.int 8))) wNil)))))) (wB 1)) fin (natD l) [] [.val d, .no] := fun fin hf => by
    refine lc_map1 (α := Nat) _ (fun i => D.int ((2 ^ i : Nat) : Int)) rfl l (fun i hi k hk => ?_) (small_sz (by omega)) hf
    simp
    exact ⟨_, bit_at (hl i hi), by simpa using hk⟩
  have fin : ∃ ns : List Int, (l.map fun i => D.int ((2 ^ i : Nat) : Int)) = ns.map D.int ∧ q (.int ns.sum) := ⟨l.map fun i => ((2 ^ i : Nat) : Int), by simp, by rw [sum_nat]; exact hq⟩
  have go : ∀ d, (d = lotD l ∨ d = .lst (natD l)) → wIs (wVar 0) [.val d, .no] fun xs e1 => xs = natD l ∧ e1 = [.val d, .no] := by
    rintro d (rfl | rfl) <;> simp [lotD]
  rcases hd with rfl | rfl
  · simp [w_number_of_lot, lotD]
    refine ⟨rfl, key _ ?_⟩
    simpa using fin
  · simp [w_number_of_lot]
    refine ⟨rfl, key _ ?_⟩
    simpa using fin
end DL

/-! V2 (k27): orders, lots. -/
namespace DL
open PySem PySem.Spec PyProof.Rows L2
theorem step_len {n k : Nat} (hn : n ≤ 4) (hk : k < n) : ((ordN n k).map fun _ => (List.range n).length).sum ≤ sizeLine := by
  obtain ⟨o1, _⟩ := ord_short n (by omega) k (by omega)
  have h := sum_le24 (ordN n k) (fun _ => (List.range n).length) 4 fun x _ => by simp; omega
  refine small_sz (Nat.le_trans h ?_)
  omega
theorem v_orders_of (J : GJ) (ds : List D) (q : D → Prop) (_ : ds.length = 1) (h : S_orders_of J ds q) : w_orders_of J (startE N_orders_of ds) (EndQ q) := by
  obtain ⟨n, rfl, hn, hq⟩ := h
  refine seq_step [.val (.lst (natD (List.range n))), .val (.lst [lotD []]), .no, .no, .no] (fun E _ _ _ hE => by simpa [lotD, natD] using hE) ?_
  refine seq_stepP (fun e => ∃ s2, e = [.val (.lst (natD (List.range n))), .val (.lst ((ordN n n).map lotD)), s2, .no, .no]) (fun E _ _ _ hE => ?_) fun e he => ?_
  · simp only [sFor, wIs]
    refine for_ind (α := Nat) (fun i => D.int (i : Nat)) (fun xs e => ∃ k s2, xs.length = n - k ∧ k ≤ n ∧ e = [.val (.lst (natD (List.range n))), .val (.lst ((ordN n k).map lotD)), s2, .no, .no]) (fun e h => ?_) (fun x xs e h R hR => ?_) (List.range n) _ ⟨0, .no, by simp, by omega, rfl⟩
    · obtain ⟨k, s2, hk, hk2, rfl⟩ := h
      have : k = n := by
        simp at hk
        omega
      subst this
      exact hE _ ⟨s2, rfl⟩
    · obtain ⟨k, s2, hk, hk2, rfl⟩ := h
      simp only [List.length_cons] at hk
      obtain ⟨o1, o2⟩ := ord_short n (by omega) k (by omega)
      simp
      refine ⟨rfl, lc2_map (i := 3) (j := 4) (e := [.val (.lst (natD (List.range n))), .val (.lst ((ordN n k).map lotD)), .val (.int (x : Nat)), .no, .no]) (α := List Nat) (β := Nat) (by decide) lotD (fun _ => List.range n) (fun _ i => D.int (i : Nat)) (fun o i => !o.contains i) (fun o i => lotD (o ++ [i])) rfl rfl (ordN n k) []
        (fun o ho k' hk' => by simp; exact hk') (fun o ho i hi k' hk' => tt_notIn rfl rfl hk') (fun o ho i hi hp k' hk' => ww_snoc rfl rfl (by have := (o2 o ho).2.1; omega) hk') ?_ ?_⟩
      · simpa using step_len hn (by omega)
      · refine hR _ ⟨k + 1, .val (.int (x : Nat)), by omega, by omega, ?_⟩
        simp [ordN, stepO, List.map_flatMap]
        rfl
  · obtain ⟨s2, rfl⟩ := he
    simpa using hq
theorem v__law_orders (J : GJ) (ds : List D) (q : D → Prop) (_ : ds.length = 1) (h : S__law_orders J ds q) : w__law_orders J (startE N__law_orders ds) (EndQ q) := by
  obtain ⟨n, rfl, hn0, hn, hq⟩ := h
  refine seq_step [.val (.int (n : Nat)), .val (.lst [lotD []]), .no, .no, .no] (fun E _ _ _ hE => by simpa [lotD, natD] using hE) ?_
  refine seq_stepP (fun e => ∃ s2, e = [.val (.int (n : Nat)), .val (.lst ((ordN n n).map lotD)), s2, .no, .no]) (fun E _ _ _ hE => ?_) fun e he => ?_
  · simp only [sFor, wR1]
    refine ⟨_, rfl, by omega, ?_⟩
    rw [show rgD 0 1 ((n : Nat) : Int).toNat = (List.range n).map fun i => D.int (i : Nat) from rgD_nat n]
    refine for_ind (α := Nat) (fun i => D.int (i : Nat)) (fun xs e => ∃ k s2, xs.length = n - k ∧ k ≤ n ∧ e = [.val (.int (n : Nat)), .val (.lst ((ordN n k).map lotD)), s2, .no, .no]) (fun e h => ?_) (fun x xs e h R hR => ?_) (List.range n) _ ⟨0, .no, by simp, by omega, rfl⟩
    · obtain ⟨k, s2, hk, hk2, rfl⟩ := h
      have : k = n := by
        simp at hk
        omega
      subst this
      exact hE _ ⟨s2, rfl⟩
    · obtain ⟨k, s2, hk, hk2, rfl⟩ := h
      simp only [List.length_cons] at hk
      obtain ⟨o1, o2⟩ := ord_short n (by omega) k (by omega)
      simp
      refine ⟨rfl, lc_map1 (α := List Nat) (e := [.val (.int (n : Nat)), .val (.lst ((ordN n k).map lotD)), .val (.int (x : Nat)), .no, .no]) (i := 4) lotD (fun o => .lst ((((List.range n).filter fun i => !o.contains i).map fun i => o ++ [i]).map lotD)) rfl (ordN n k) (fun o ho k' hk' => ?_) (small_sz (by omega)) ?_⟩
      · simp only [wLC, wR1]
        refine ⟨_, rfl, by omega, ?_⟩
        rw [show rgD 0 1 ((n : Nat) : Int).toNat = (List.range n).map fun i => D.int (i : Nat) from rgD_nat n]
        refine ⟨by simp; rfl, ?_⟩
        refine lc_map (α := Nat) (i := 3) (e := [.val (.int (n : Nat)), .val (.lst ((ordN n k).map lotD)), .val (.int (x : Nat)), .no, .val (lotD o)]) (fun i => D.int (i : Nat)) (fun i => lotD (o ++ [i])) (fun i => !o.contains i) rfl (List.range n) [] (fun i hi k2 hk2 => tt_notIn rfl rfl hk2) (fun i hi hp k2 hk2 => ww_snoc rfl rfl (by have := (o2 o ho).2.1; omega) hk2) (by simpa using small_sz (by omega)) ?_
        simpa [Function.comp_def] using hk'
      · refine ⟨(ordN n k).map (fun o => ((((List.range n).filter fun i => !o.contains i).map fun i => o ++ [i]).map lotD)), ?_, by simp, ?_, ?_⟩
        · simpa using ord_ne n (by omega) (by omega) k (by omega)
        · rw [List.map_map]
          refine small_sz (Nat.le_trans (sum_le24 (ordN n k) _ 4 fun o _ => ?_) (by omega))
          have := List.length_filter_le (fun i => !o.contains i) (List.range n)
          simp only [Function.comp, List.length_map, List.length_range] at this ⊢
          omega
        · refine hR _ ⟨k + 1, .val (.int (x : Nat)), by omega, by omega, ?_⟩
          have e : ((ordN n k).map (fun o => ((((List.range n).filter fun i => !o.contains i).map fun i => o ++ [i]).map lotD))).flatten = (ordN n (k + 1)).map lotD := by
            simp [ordN, stepO, List.flatMap_def, List.map_flatten, Function.comp_def]
          rw [e]
          rfl
  · obtain ⟨s2, rfl⟩ := he
    simpa using hq
theorem v_lots_of (J : GJ) (ds : List D) (q : D → Prop) (_ : ds.length = 1) (h : S_lots_of J ds q) : w_lots_of J (startE N_lots_of ds) (EndQ q) := by
  obtain ⟨n, rfl, hn, hq⟩ := h
  refine seq_step [.val (.int (n : Nat)), .val (.lst [lotD []]), .no, .no] (fun E _ _ _ hE => by simpa [lotD, natD] using hE) ?_
  refine seq_stepP (fun e => ∃ s2, e = [.val (.int (n : Nat)), .val (.lst ((lotsN n).map lotD)), s2, .no]) (fun E _ _ _ hE => ?_) fun e he => ?_
  · simp only [sFor, wR1]
    refine ⟨_, rfl, by omega, ?_⟩
    rw [show rgD 0 1 ((n : Nat) : Int).toNat = (List.range n).map fun i => D.int (i : Nat) from rgD_nat n]
    refine for_ind (α := Nat) (fun i => D.int (i : Nat)) (fun xs e => ∃ k s2, xs = List.range' k (n - k) ∧ k ≤ n ∧ e = [.val (.int (n : Nat)), .val (.lst ((lotsN k).map lotD)), s2, .no]) (fun e h => ?_) (fun x xs e h R hR => ?_) (List.range n) _ ⟨0, .no, List.range_eq_range', by omega, rfl⟩
    · obtain ⟨k, s2, hk, hk2, rfl⟩ := h
      have hk := congrArg List.length hk
      have : k = n := by
        simp at hk
        omega
      subst this
      exact hE _ ⟨s2, rfl⟩
    · obtain ⟨k, s2, hk, hk2, rfl⟩ := h
      have hl : n - k = (n - (k + 1)) + 1 := by
        have := congrArg List.length hk
        simp at this
        omega
      rw [hl, List.range'_succ] at hk
      obtain ⟨rfl, rfl⟩ := List.cons.inj hk
      have hx : (lotsN x).length ≤ 16 := by
        rw [lots_map x (by omega), List.length_map, List.length_range]
        exact (pow_le x (by omega)).1
      have hs : ∀ o ∈ lotsN x, o.length ≤ 4 := fun o ho => by
        rw [lots_map x (by omega)] at ho
        obtain ⟨k, hk, rfl⟩ := List.mem_map.mp ho
        exact (lot_num x (by omega) k (List.mem_range.mp hk)).2.1
      simp
      refine ⟨rfl, lc_map1 (α := List Nat) (e := [.val (.int (n : Nat)), .val (.lst ((lotsN x).map lotD)), .val (.int (x : Nat)), .no]) (i := 3) lotD (fun o => lotD (o ++ [x])) rfl (lotsN x) (fun o ho k' hk' => ww_snoc rfl rfl (by have := hs o ho; omega) hk') (small_sz (by omega)) ?_⟩
      refine ⟨_, rfl, ?_, ?_⟩
      · exact small_sz (by simp; omega)
      · refine hR _ ⟨x + 1, .val (.int (x : Nat)), rfl, by omega, ?_⟩
        simp [lotsN]
  · obtain ⟨s2, rfl⟩ := he
    simpa using hq
end DL

/-! V3 (k27): what each brings. -/
namespace DL
open PySem PySem.Spec PyProof.Rows L2
@[simp] theorem lk_n (a b : D) : List.lookup ("n" : Str) [(("n" : Str), a), ("worths", b)] = some a := rfl
@[simp] theorem lk_w (a b : D) : List.lookup ("worths" : Str) [(("n" : Str), a), ("worths", b)] = some b := rfl
@[simp] theorem ne_nw : (("n" : Str) = "worths") = False := eq_false (by decide)
theorem fnd_zero (n : Nat) (ws : List Int) (o : List Nat) : fndI n ws o 0 = List.replicate n 0 := by
  unfold fndI
  refine List.ext_getElem? fun i => ?_
  simp
  by_cases h : i < n <;> simp [h, List.getElem?_replicate]
theorem fnd_step {n : Nat} {ws : List Int} {o : List Nat} (ho : OrdOk n o) {j : Nat} (hj : j < n) : (fndI n ws o j).set (o.getD j 0) (difI ws o j) = fndI n ws o (j + 1) := by
  have hl : j < o.length := by rw [ho.len]; exact hj
  have ej : o.getD j 0 = o[j] := by rw [List.getD_eq_getElem?_getD, List.getElem?_eq_getElem hl]; rfl
  have ix : o.idxOf o[j] = j := ho.nd.idxOf_getElem j hl
  unfold fndI
  refine List.ext_getElem? fun i => ?_
  by_cases hi : i < n
  · rw [List.getElem?_map, List.getElem?_range hi, ej]
    by_cases e : o[j] = i
    · subst e
      rw [List.getElem?_set_self (by simpa using hi)]
      simp [ix]
    · rw [List.getElem?_set_ne e, List.getElem?_map, List.getElem?_range hi]
      have ne : o.idxOf i ≠ j := fun z => e (by
        have hm := ho.mem i hi
        have := List.getElem_idxOf (List.idxOf_lt_length_of_mem hm)
        simp only [z] at this
        exact this)
      simp only [Option.map_some]
      by_cases h : o.idxOf i < j
      · rw [if_pos h, if_pos (by omega)]
      · rw [if_neg h, if_neg (by omega)]
  · rw [List.getElem?_eq_none (by simp; omega), List.getElem?_eq_none (by simp; omega)]
theorem enD_nat (g : Nat → D) (vs : List Nat) (j : Nat) : enD j (vs.map g) = (List.range vs.length).map fun i => .tup [.int ((j + i : Nat) : Int), g (vs.getD i 0)] := by
  refine List.ext_getElem? fun i => ?_
  rw [enD_get, List.getElem?_map, List.getElem?_map]
  by_cases h : i < vs.length
  · rw [List.getElem?_range h, List.getElem?_eq_getElem h]
    simp [List.getD_eq_getElem?_getD, List.getElem?_eq_getElem h]
  · rw [List.getElem?_eq_none (by omega), List.getElem?_eq_none (by simp; omega)]
    rfl
theorem enD_natD (vs : List Nat) : enD 0 (natD vs) = (List.range vs.length).map fun i => .tup [.int (i : Nat), .int (vs.getD i 0 : Nat)] := by
  unfold natD
  rw [enD_nat]
  exact List.map_congr_left fun i _ => by rw [Nat.zero_add]
theorem fnd_len (n : Nat) (ws : List Int) (o : List Nat) (j : Nat) : (fndI n ws o j).length = n := by simp [fndI]
theorem rep0 (n : Nat) : (List.replicate n [D.int 0]).flatten = (List.replicate n (0 : Int)).map D.int := by
  induction n with
  | zero => rfl
  | succ n ih => rw [List.replicate_succ, List.replicate_succ, List.flatten_cons, ih]; rfl
theorem ixN_nat {n i : Nat} (h : i < n) : ixN n (i : Nat) = some i := by
  unfold ixN
  simp [h]
theorem v_raw_brings (J : GJ) (ds : List D) (q : D → Prop) (_ : ds.length = 2) (h : S_raw_brings J ds q) : w_raw_brings J (startE N_raw_brings ds) (EndQ q) := by
  obtain ⟨n, ws, o, rfl, hg, ho, hq⟩ := h
  have hn := hg.hi
  have ok := ordOk hn ho
  have hl := hg.len
  refine seq_step [.val (gD n ws), .val (lotD o), .own ((fndI n ws o 0).map D.int), .no, .no] (fun E _ _ _ hE => ?_) ?_
  · rw [fnd_zero] at hE
    simp [gD]
    refine ⟨by omega, small_sz (by omega), by simpa [gD] using hE⟩
  refine seq_stepP (fun e => ∃ s3 s4, e = [.val (gD n ws), .val (lotD o), .own ((fndI n ws o n).map D.int), s3, s4]) (fun E _ _ _ hE => ?_) fun e he => ?_
  · simp only [sFor, wEn]
    simp [lotD, -enD]
    rw [enD_natD]
    refine for_ind (α := Nat) _ (fun xs e => ∃ k s3 s4, xs = List.range' k (n - k) ∧ k ≤ n ∧ e = [.val (gD n ws), .val (lotD o), .own ((fndI n ws o k).map D.int), s3, s4]) (fun e h => ?_) (fun x xs e h R hR => ?_) (List.range o.length) _ ⟨0, .no, .no, by rw [ok.len]; exact List.range_eq_range', by omega, rfl⟩
    · obtain ⟨k, s3, s4, hk, hk2, rfl⟩ := h
      have hk := congrArg List.length hk
      have : k = n := by
        simp at hk
        omega
      subst this
      exact hE _ ⟨s3, s4, rfl⟩
    · obtain ⟨k, s3, s4, hk, hk2, rfl⟩ := h
      have hl2 : n - k = (n - (k + 1)) + 1 := by
        have := congrArg List.length hk
        simp at this
        omega
      rw [hl2, List.range'_succ] at hk
      obtain ⟨rfl, rfl⟩ := List.cons.inj hk
      have hx : x < n := by omega
      have c1 := cutD_lo (natD o) (x + 1) (by rw [natD_length, ok.len]; omega)
      have c2 := cutD_lo (natD o) x (by rw [natD_length, ok.len]; omega)
      rw [natD_take] at c1 c2
      have n1 := (ordNum hn ho (j := x + 1) (by omega)).2
      have n2 := (ordNum hn ho (j := x) (by omega)).2
      have i4 : ∀ m, ∀ i ∈ o.take m, i < 4 := fun m i hi => by have := ok.lt i (List.mem_of_mem_take hi); omega
      have l4 : ∀ m, (o.take m).length ≤ 8 := fun m => by
        rw [List.length_take, ok.len]
        omega
      have hp : o.getD x 0 < n := by
        have hlx : x < o.length := by rw [ok.len]; exact hx
        rw [List.getD_eq_getElem?_getD, List.getElem?_eq_getElem hlx]
        exact ok.lt _ (List.getElem_mem hlx)
      have ix := ixN_nat hp
      rw [show (((x + 1 : Nat) : Nat) : Int) = ((x : Nat) : Int) + 1 from by omega] at c1
      simp only [gTup, gCons, gN, gNil]
      refine ⟨_, rfl, rfl, _, _, rfl, _, _, rfl, rfl, ?_⟩
      simp [-List.getD_eq_getElem?_getD, gD, lotD, c1, c2, S_number_of_lot, tuI]
      refine ⟨_, rfl, i4 _, l4 _, _, at_ints (by omega), _, rfl, i4 _, l4 _, _, at_ints (by omega), _, by rw [fnd_len]; exact ix, ?_⟩
      refine hR _ ⟨x + 1, .val (.int (x : Nat)), .val (.int (o.getD x 0 : Nat)), rfl, by omega, ?_⟩
      rw [← fnd_step ok hx]
      simp [difI, gD, lotD, tuI]
  · obtain ⟨s3, s4, rfl⟩ := he
    simp
    exact hq
theorem v_brings (J : GJ) (ds : List D) (q : D → Prop) (_ : ds.length = 2) (h : S_brings J ds q) : w_brings J (startE N_brings ds) (EndQ q) := by
  obtain ⟨n, ws, o, rfl, hg, ho, hq⟩ := h
  simp [w_brings, gD, S_is_order, S_raw_brings]
  exact ⟨_, n, ⟨rfl, rfl⟩, hg.lo, hg.hi, ⟨o, rfl, ho, n, ws, o, ⟨⟨rfl, rfl⟩, rfl⟩, hg, ho, hq⟩⟩
theorem vx_brings (J : GJ) (ds : List D) (q : D → Prop) (xq : Str → List (Str × D) → Prop) (_ : ds.length = 2) (h : SX_brings J ds q xq) : wx_brings J (startE N_brings ds) { nx := fun _ => q .non, rt := fun d _ => q d, rs := fun c fs _ => xq c fs } := by
  obtain ⟨n, ws, d, rfl, hg, hd, hq⟩ := h
  simp [wx_brings, gD, S_is_order, S_raw_brings]
  exact ⟨_, n, ⟨rfl, rfl⟩, hg.lo, hg.hi, .inr ⟨hd, hq⟩⟩
theorem v_Gain (J : GJ) (a : Addr) (ds : List D) (q : D → Prop) (_ : ds.length = 2) (h : S_Gain J ds q) : w_Gain J (startE N_Gain (.tk a :: ds)) [] fun gs => q (.ins "Gain" gs) := by
  obtain ⟨n, ws, rfl, hg, hq⟩ := h
  have hl := hg.len
  have h0 := hg.lo
  have hn := hg.hi
  have e1 : (lotsN n).length = 2 ^ n := by rw [lots_map n (by omega)]; simp
  have z := at_ints (vs := ws) (i := 0) (by have := (pow_le n (by omega)).2; omega)
  rw [hg.z] at z
  simp [w_Gain, S_is_within, S_is_tuple, S_lots_of, tuI, e1, hl]
  refine ⟨_, _, _, ⟨rfl, rfl, rfl⟩, ⟨by omega, by omega⟩, n, rfl, hn, _, _, ⟨rfl, rfl⟩, _, rfl, by simp [hl, e1], rfl, ?_⟩
  refine lc_map1 (α := Int) D.int (fun _ => .bl true) rfl ws (fun x _ k hk => ?_) (small_sz (by have := (pow_le n (by omega)).1; omega)) ?_
  · simp [S_is_integer]
    exact hk
  · refine ⟨ws.map fun _ => true, by simp, by simp, ?_⟩
    simp
    exact ⟨_, z, by simpa [gD, tuI] using hq⟩
theorem v_Gain_eq (J : GJ) (ds : List D) (q : D → Prop) (_ : ds.length = 2) (h : S_Gain_eq J ds q) : w_Gain_eq J (startE N_Gain_eq ds) (EndQ q) := by
  rcases h with ⟨n, ws, rfl, hg, hq⟩ | ⟨n, ws, xs, rfl, hq⟩
  · simp [w_Gain_eq, gD, tuI, okEA_ints, eqDA_self_ints]
    exact hq
  · simp [w_Gain_eq, gD, tuI]
    exact hq
end DL

/-! V4 (k27): shapley, dividends, rising, swings. -/
namespace DL
open PySem PySem.Spec PyProof.Rows L2
theorem br_len (n : Nat) (ws : List Int) (o : List Nat) : (bringsI n ws o).length = n := fnd_len n ws o n
def colsI (n : Nat) (bs : List (List Int)) : List Int := (List.range n).map (colI bs)
theorem colsI_nil (n : Nat) : colsI n [] = List.replicate n 0 := by
  unfold colsI colI
  simp only [List.map_nil, List.sum_nil]
  rw [List.map_const', List.length_range]
theorem zipD_ints' : ∀ vs ts : List Int, zipD (vs.map D.int) (ts.map D.int) = (vs.zip ts).map pairD := zipD_ints
theorem cols_step {n : Nat} {bs : List (List Int)} {b : List Int} (hb : b.length = n) : ((colsI n bs).zip b).map (fun p => p.1 + p.2) = colsI n (bs ++ [b]) := by
  refine List.ext_getElem? fun i => ?_
  by_cases h : i < n
  · have h1 : (colsI n bs)[i]? = some (colI bs i) := by unfold colsI; rw [List.getElem?_map, List.getElem?_range h]; rfl
    have h2 : b[i]? = some (b.getD i 0) := by rw [List.getD_eq_getElem?_getD, List.getElem?_eq_getElem (by omega)]; rfl
    have h3 : (colsI n (bs ++ [b]))[i]? = some (colI (bs ++ [b]) i) := by unfold colsI; rw [List.getElem?_map, List.getElem?_range h]; rfl
    rw [List.getElem?_map, (List.getElem?_zip_eq_some (z := (colI bs i, b.getD i 0))).mpr ⟨h1, h2⟩, h3]
    simp [colI]
  · have l1 : (((colsI n bs).zip b).map (fun p => p.1 + p.2)).length ≤ n := by simp [colsI]; omega
    rw [List.getElem?_eq_none (by omega), List.getElem?_eq_none (by simp [colsI]; omega)]
theorem v_shapley (J : GJ) (ds : List D) (q : D → Prop) (_ : ds.length = 1) (h : S_shapley J ds q) : w_shapley J (startE N_shapley ds) (EndQ q) := by
  obtain ⟨n, ws, rfl, hg, hq⟩ := h
  have h0 := hg.lo
  have hn := hg.hi
  obtain ⟨ol0, ol1⟩ := ord_len n (by omega) h0
  refine seq_step [.val (gD n ws), .val (.lst ((ordN n n).map lotD)), .no, .no, .no, .no] (fun E _ _ _ hE => ?_) ?_
  · simp [gD, S_orders_of, rgD_nat]
    exact ⟨by omega, n, rfl, hn, by simpa [gD] using hE⟩
  refine seq_step [.val (gD n ws), .val (.lst ((ordN n n).map lotD)), .val (liI (colsI n [])), .no, .no, .no] (fun E _ _ _ hE => ?_) ?_
  · rw [colsI_nil] at hE
    simp [gD]
    exact ⟨by omega, small_sz (by omega), by simpa [gD, liI] using hE⟩
  refine seq_stepP (fun e => ∃ s3, e = [.val (gD n ws), .val (.lst ((ordN n n).map lotD)), .val (liI (colsI n ((ordN n n).map (bringsI n ws)))), s3, .no, .no]) (fun E _ _ _ hE => ?_) fun e he => ?_
  · simp only [sFor, wIs]
    refine for_ind (α := List Nat) lotD (fun xs e => ∃ pre s3, ordN n n = pre ++ xs ∧ e = [.val (gD n ws), .val (.lst ((ordN n n).map lotD)), .val (liI (colsI n (pre.map (bringsI n ws)))), s3, .no, .no]) (fun e h => ?_) (fun x xs e h R hR => ?_) (ordN n n) _ ⟨[], .no, rfl, rfl⟩
    · obtain ⟨pre, s3, hp, rfl⟩ := h
      rw [List.append_nil] at hp
      subst hp
      exact hE _ ⟨s3, rfl⟩
    · obtain ⟨pre, s3, hp, rfl⟩ := h
      have hx : x ∈ ordN n n := by rw [hp]; simp
      simp [-zipD, S_raw_brings, liI, tuI]
      refine ⟨n, ws, x, ⟨rfl, rfl⟩, hg, hx, _, _, ⟨rfl, rfl⟩, _, rfl, _, rfl, rfl, ?_⟩
      rw [zipD_ints']
      refine lc_gen (α := Int × Int) pairD (fun p => .int (p.1 + p.2)) (fun _ => true) (fun p => [.val (gD n ws), .val (.lst ((ordN n n).map lotD)), .val (liI (colsI n (pre.map (bringsI n ws)))), .val (lotD x), .val (.int p.1), .val (.int p.2)]) (fun p => rfl) _ [] (fun p _ k hk => ?_) (fun p _ k hk => hk) (fun p _ _ k hk => ?_) ?_ ?_
      · simp only [gTup, gCons, gN, gNil]
        exact ⟨_, rfl, rfl, _, _, rfl, _, _, rfl, rfl, hk⟩
      · simp
        exact hk
      · refine small_sz ?_
        simp [colsI, br_len]
        omega
      · refine hR _ ⟨pre ++ [x], .val (lotD x), by rw [hp]; simp, ?_⟩
        rw [List.map_append, List.map_cons, List.map_nil, ← cols_step (br_len n ws x)]
        simp [filter_yes, liI, Function.comp_def]
  · obtain ⟨s3, rfl⟩ := he
    simp [liI]
    refine ⟨rfl, ?_⟩
    refine lc_map1 (α := Int) D.int (fun c => pairD (lowF c ((ordN n n).length : Nat))) rfl (colsI n ((ordN n n).map (bringsI n ws))) (fun c _ k hk => ?_) (small_sz (by simp [colsI]; omega)) ?_
    · simp [S_lowest]
      exact ⟨c, _, ⟨rfl, rfl⟩, by omega, by omega, by simpa using hk⟩
    · simpa [shapI, colsI, Function.comp_def] using hq
theorem or_all {l : List Bool} {P : Bool → Prop} (h : P (l.all id)) : false ∈ l ∧ P false ∨ ¬ false ∈ l ∧ P true := by
  cases e : l.all id with
  | false =>
    rw [e] at h
    simp at e
    exact .inl ⟨e, h⟩
  | true =>
    rw [e] at h
    simp at e
    exact .inr ⟨e, h⟩
theorem dvs_len (ws : List Int) : ∀ k, (dvs ws k).length = k
  | 0 => rfl
  | k + 1 => by simp [dvs, dvs_len ws k]
theorem at_lots {n k : Nat} (hn : n ≤ 4) (hk : k < 2 ^ n) : atI ((lotsN n).map lotD) (k : Nat) = some (lotD (lotK n k)) := by
  refine atI_map (x := lotK n k) ?_
  rw [lots_map n (by omega), List.getElem?_map, List.getElem?_range hk]
  simp [lots_map n (by omega : n < 5)] at *
theorem v_dividends (J : GJ) (ds : List D) (q : D → Prop) (_ : ds.length = 1) (h : S_dividends J ds q) : w_dividends J (startE N_dividends ds) (EndQ q) := by
  obtain ⟨n, ws, rfl, hg, hq⟩ := h
  have hn := hg.hi
  have hl := hg.len
  have p16 := (pow_le n (by omega)).1
  refine seq_step [.val (gD n ws), .val (.lst ((lotsN n).map lotD)), .own [], .no, .no, .no, .no, .no] (fun E _ _ _ hE => ?_) ?_
  · simp [gD, S_lots_of]
    exact ⟨n, rfl, hn, by simpa [gD] using hE⟩
  refine seq_stepP (fun e => ∃ s3 s4 s5, e = [.val (gD n ws), .val (.lst ((lotsN n).map lotD)), .own ((dvs ws (2 ^ n)).map D.int), s3, s4, s5, .no, .no]) (fun E _ _ _ hE => ?_) fun e he => ?_
  · simp only [sFor, wEn]
    simp [-enD]
    have e0 : enD 0 ((lotsN n).map lotD) = (List.range (2 ^ n)).map fun k => .tup [.int (k : Nat), lotD (lotK n k)] := by
      rw [lots_map n (by omega)]
      refine List.ext_getElem? fun i => ?_
      rw [enD_get, List.getElem?_map, List.getElem?_map, List.getElem?_map]
      by_cases h : i < 2 ^ n
      · rw [List.getElem?_range h]
        simp
      · rw [List.getElem?_eq_none (by simpa using h)]
        rfl
    rw [e0]
    refine for_ind (α := Nat) _ (fun xs e => ∃ k s3 s4 s5, xs = List.range' k (2 ^ n - k) ∧ k ≤ 2 ^ n ∧ e = [.val (gD n ws), .val (.lst ((lotsN n).map lotD)), .own ((dvs ws k).map D.int), s3, s4, s5, .no, .no]) (fun e h => ?_) (fun x xs e h R hR => ?_) _ _ ⟨0, .no, .no, .no, List.range_eq_range', by omega, rfl⟩
    · obtain ⟨k, s3, s4, s5, hk, hk2, rfl⟩ := h
      have hk := congrArg List.length hk
      have : k = 2 ^ n := by
        simp at hk
        omega
      subst this
      exact hE _ ⟨s3, s4, s5, rfl⟩
    · obtain ⟨k, s3, s4, s5, hk, hk2, rfl⟩ := h
      have hl2 : 2 ^ n - k = (2 ^ n - (k + 1)) + 1 := by
        have := congrArg List.length hk
        simp at this
        omega
      rw [hl2, List.range'_succ] at hk
      obtain ⟨rfl, rfl⟩ := List.cons.inj hk
      have hx : x < 2 ^ n := by omega
      simp only [gTup, gCons, gN, gNil]
      refine ⟨_, rfl, rfl, _, _, rfl, _, _, rfl, rfl, ?_⟩
      refine seq_step [.val (gD n ws), .val (.lst ((lotsN n).map lotD)), .own ((dvs ws x).map D.int), .val (.int (x : Nat)), .val (lotD (lotK n x)), .val (liI (((List.range x).filter fun o => subN o x).map fun o => (dvs ws x).getD o 0)), .no, .no] (fun E' _ _ _ hE' => ?_) ?_
      · simp only [sSet, wVal, wLC, wR1]
        refine ⟨_, rfl, by omega, ?_⟩
        rw [show rgD 0 1 ((x : Nat) : Int).toNat = (List.range x).map fun i => D.int (i : Nat) from rgD_nat x]
        refine ⟨by simp; rfl, ?_⟩
        refine lc_map (α := Nat) (i := 6) (e := [.val (gD n ws), .val (.lst ((lotsN n).map lotD)), .own ((dvs ws x).map D.int), .val (.int (x : Nat)), .val (lotD (lotK n x)), s5, .no, .no]) (fun i => D.int (i : Nat)) (fun o => .int ((dvs ws x).getD o 0)) (fun o => subN o x) rfl (List.range x) [] (fun o ho k hk => ?_) (fun o ho _ k hk => ?_) (by simpa using small_sz (by omega)) ?_
        · have ho := List.mem_range.mp ho
          have es := lot_sub n (by omega) x hx o ho
          have l4 := (lot_num n (by omega) o (by omega)).2.1
          have ea := at_lots hn (k := o) (by omega)
          simp only [wTB, wPr, wCons, wOf, wLC, wIs, w2, wB]
          simp
          refine ⟨_, ea, ?_⟩
          simp [lotD]
          refine ⟨rfl, ?_⟩
          refine lc_map1 (α := Nat) (i := 7) (fun i => D.int (i : Nat)) (fun p => .bl ((lotK n x).contains p)) rfl (lotK n o) (fun p _ k' hk' => ww_in rfl rfl hk') (small_sz (by omega)) ?_
          refine ⟨(lotK n o).map fun p => (lotK n x).contains p, by simp, ?_⟩
          have e3 : ((lotK n o).map fun p => (lotK n x).contains p).all id = subN o x := by
            rw [List.all_map]
            exact es
          exact or_all (P := fun b => k b _) (by rw [e3]; exact hk)
        · have ho := List.mem_range.mp ho
          simp
          exact ⟨_, at_ints (by rw [dvs_len]; exact ho), hk⟩
        · simp only [List.nil_append]
          simpa [liI, Function.comp_def] using hE'
      · simp [gD, tuI, liI, -List.getD_eq_getElem?_getD]
        refine ⟨_, at_ints (by omega), ?_⟩
        refine ⟨_, (List.map_map ..).symm, small_sz (by rw [dvs_len]; omega), hR _ ⟨x + 1, .val (.int (x : Nat)), .val (lotD (lotK n x)), .val (liI (((List.range x).filter fun o => subN o x).map fun o => (dvs ws x).getD o 0)), rfl, by omega, ?_⟩⟩
        simp [dvs, gD, tuI, liI]
  · obtain ⟨s3, s4, s5, rfl⟩ := he
    simp
    exact hq
end DL

/-! V5 (k27): rising, swings. -/
namespace DL
open PySem PySem.Spec PyProof.Rows L2
theorem v_swings (J : GJ) (ds : List D) (q : D → Prop) (_ : ds.length = 1) (h : S_swings J ds q) : w_swings J (startE N_swings ds) (EndQ q) := by
  obtain ⟨n, ws, rfl, hg, hq⟩ := h
  have hn := hg.hi
  have hl := hg.len
  have p16 := (pow_le n (by omega)).1
  refine seq_step [.val (gD n ws), .val (.lst ((lotsN n).map lotD)), .own [], .no, .no, .no, .no] (fun E _ _ _ hE => ?_) ?_
  · simp [gD, S_lots_of]
    exact ⟨n, rfl, hn, by simpa [gD] using hE⟩
  refine seq_stepP (fun e => ∃ s3 s4 s6, e = [.val (gD n ws), .val (.lst ((lotsN n).map lotD)), .own ((swsI n ws).map D.int), s3, s4, .no, s6]) (fun E _ _ _ hE => ?_) fun e he => ?_
  · simp only [sFor, wR1]
    simp [gD]
    refine ⟨by omega, ?_⟩
    rw [rgD_nat]
    refine for_ind (α := Nat) (fun i => D.int (i : Nat)) (fun xs e => ∃ k s3 s4 s6, xs = List.range' k (n - k) ∧ k ≤ n ∧ e = [.val (gD n ws), .val (.lst ((lotsN n).map lotD)), .own (((List.range k).map fun i => ((swI n ws i : Nat) : Int)).map D.int), s3, s4, .no, s6]) (fun e h => ?_) (fun x xs e h R hR => ?_) _ _ ⟨0, .no, .no, .no, List.range_eq_range', by omega, rfl⟩
    · obtain ⟨k, s3, s4, s6, hk, hk2, rfl⟩ := h
      have hk := congrArg List.length hk
      have : k = n := by
        simp at hk
        omega
      subst this
      exact hE _ ⟨s3, s4, s6, rfl⟩
    · obtain ⟨k, s3, s4, s6, hk, hk2, rfl⟩ := h
      have hl2 : n - k = (n - (k + 1)) + 1 := by
        have := congrArg List.length hk
        simp at this
        omega
      rw [hl2, List.range'_succ] at hk
      obtain ⟨rfl, rfl⟩ := List.cons.inj hk
      have hx : x < n := by omega
      have hlots : (lotsN n).map lotD = (List.range (2 ^ n)).map fun k => lotD (lotK n k) := by
        rw [lots_map n (by omega), List.map_map]
        rfl
      simp only [gN]
      refine seq_step [.val (gD n ws), .val (.lst ((lotsN n).map lotD)), .own (((List.range x).map fun i => ((swI n ws i : Nat) : Int)).map D.int), .val (.int (x : Nat)), .val (.lst (((List.range (2 ^ n)).filter fun k => !(lotK n k).contains x).map fun k => lotD (lotK n k))), .no, s6] (fun E' _ _ _ hE' => ?_) ?_
      · simp only [sSet, wVal, wLC, wIs]
        simp
        refine ⟨rfl, ?_⟩
        rw [hlots]
        refine lc_map (α := Nat) (i := 5) (fun k => lotD (lotK n k)) (fun k => lotD (lotK n k)) (fun k => !(lotK n k).contains x) rfl (List.range (2 ^ n)) [] (fun o ho k hk => tt_notIn rfl rfl hk) (fun o ho _ k hk => by simpa using hk) (by simpa using small_sz (by omega)) ?_
        simpa [hlots] using hE'
      refine seq_step [.val (gD n ws), .val (.lst ((lotsN n).map lotD)), .own (((List.range x).map fun i => ((swI n ws i : Nat) : Int)).map D.int), .val (.int (x : Nat)), .val (.lst (((List.range (2 ^ n)).filter fun k => !(lotK n k).contains x).map fun k => lotD (lotK n k))), .no,
        .val (.lst ((((List.range (2 ^ n)).filter fun k => !(lotK n k).contains x).filter fun k => decide (ws.getD k 0 < ws.getD (k ||| 2 ^ x) 0)).map fun k => lotD (lotK n k)))] (fun E' _ _ _ hE' => ?_) ?_
      · simp only [sSet, wVal, wLC, wIs]
        refine ⟨by simp; rfl, ?_⟩
        refine lc_map (α := Nat) (i := 5) (fun k => lotD (lotK n k)) (fun k => lotD (lotK n k)) (fun k => decide (ws.getD k 0 < ws.getD (k ||| 2 ^ x) 0)) rfl ((List.range (2 ^ n)).filter fun k => !(lotK n k).contains x) [] (fun o ho k hk => ?_) (fun o ho _ k hk => by simpa using hk) ?_ ?_
        · obtain ⟨ho1, ho2⟩ := List.mem_filter.mp ho
          have ho1 := List.mem_range.mp ho1
          obtain ⟨b1, b2, b3⟩ := lot_bit n (by omega) o ho1 x hx
          rw [b1] at ho2
          have b2 := b2 ho2
          obtain ⟨m1, m2, m3⟩ := lot_num n (by omega) o ho1
          simp [gD, S_number_of_lot, lotD, natD_app, tuI, -List.getD_eq_getElem?_getD]
          refine ⟨small_sz (by rw [natD_length]; omega), _, rfl, fun i hi => ?_, by simp; omega, _, at_ints (by rw [b2, hl]; exact b3), _, rfl, fun i hi => ?_, by omega, _, at_ints (by rw [m1, hl]; exact ho1), ?_⟩
          · rcases List.mem_append.mp hi with hi | hi
            · have := m3 i hi
              omega
            · rw [List.mem_singleton.mp hi]
              omega
          · have := m3 i hi
            omega
          · rw [b2, m1]
            simp [-List.getD_eq_getElem?_getD]
            by_cases hc : ws.getD o 0 < ws.getD (o ||| 2 ^ x) 0
            · exact .inr ⟨hc, by simpa [-List.getD_eq_getElem?_getD, gD, tuI, lotD, hc] using hk⟩
            · exact .inl ⟨by omega, by simpa [-List.getD_eq_getElem?_getD, gD, tuI, lotD, hc] using hk⟩
        · refine small_sz ?_
          have := List.length_filter_le (fun k => !(lotK n k).contains x) (List.range (2 ^ n))
          simp only [List.length_range] at this
          simp only [List.length_nil]
          omega
        · simpa [-List.filter_filter] using hE'
      · have el : ((((List.range (2 ^ n)).filter fun k => !(lotK n k).contains x).filter fun k => decide (ws.getD k 0 < ws.getD (k ||| 2 ^ x) 0)).map fun k => lotD (lotK n k)).length = swI n ws x := by
          rw [List.length_map, List.filter_filter, swI]
          congr 1
          refine List.filter_congr fun k hk => ?_
          rw [(lot_bit n (by omega) k (List.mem_range.mp hk) x hx).1, Bool.and_comm]
        simp only [sDrop, wApp, wPr, wCons, wB, wNil]
        refine ⟨⟨_, rfl⟩, trivial, _, rfl, ?_⟩
        simp only [oLen, el]
        refine ⟨_, rfl, small_sz (by simp; omega), hR _ ⟨x + 1, .val (.int (x : Nat)), .val (.lst (((List.range (2 ^ n)).filter fun k => !(lotK n k).contains x).map fun k => lotD (lotK n k))), .val (.lst ((((List.range (2 ^ n)).filter fun k => !(lotK n k).contains x).filter fun k => decide (ws.getD k 0 < ws.getD (k ||| 2 ^ x) 0)).map fun k => lotD (lotK n k))), rfl, by omega, ?_⟩⟩
        simp [List.range_succ, -List.filter_filter]
  · obtain ⟨s3, s4, s6, rfl⟩ := he
    simp
    exact hq
theorem v_is_rising (J : GJ) (ds : List D) (q : D → Prop) (_ : ds.length = 1) (h : S_is_rising J ds q) : w_is_rising J (startE N_is_rising ds) (EndQ q) := by
  obtain ⟨n, ws, rfl, hg, hq⟩ := h
  have hn := hg.hi
  have hl := hg.len
  have p16 := (pow_le n (by omega)).1
  have hlots : (lotsN n).map lotD = (List.range (2 ^ n)).map fun k => lotD (lotK n k) := by
    rw [lots_map n (by omega), List.map_map]
    rfl
  refine seq_step [.val (gD n ws), .val (.lst ((lotsN n).map lotD)), .no, .no, .no, .no, .no, .no] (fun E _ _ _ hE => ?_) ?_
  · simp [gD, S_lots_of]
    exact ⟨n, rfl, hn, by simpa [gD] using hE⟩
  refine seq_stepP (fun e => riseB n ws = true ∧ ∃ s2 s3 s4 s6 s7, e = [.val (gD n ws), .val (.lst ((lotsN n).map lotD)), s2, s3, s4, .no, s6, s7]) (fun E hrt _ _ hE => ?_) fun e he => ?_
  · have no : riseB n ws = false → ∀ e, E.rt (.bl false) e := fun h e => by
      rw [hrt]
      rw [h] at hq
      exact hq
    simp only [sFor, wIs]
    show forGo _ _ _ ((lotsN n).map lotD) _
    rw [hlots]
    refine for_ind (α := Nat) (fun k => lotD (lotK n k)) (fun xs e => ∃ k s2 s3 s4 s6 s7, xs = List.range' k (2 ^ n - k) ∧ k ≤ 2 ^ n ∧ (∀ i, i < k → ∀ j, j < 2 ^ n → rise1 ws i j = true) ∧ e = [.val (gD n ws), .val (.lst ((lotsN n).map lotD)), s2, s3, s4, .no, s6, s7]) (fun e h => ?_) (fun x xs e h R hR => ?_) _ _ ⟨0, .no, .no, .no, .no, .no, List.range_eq_range', by omega, fun i h => by omega, by rw [hlots]⟩
    · obtain ⟨k, s2, s3, s4, s6, s7, hk, hk2, hr, rfl⟩ := h
      have hk := congrArg List.length hk
      have : k = 2 ^ n := by
        simp at hk
        omega
      subst this
      refine hE _ ⟨?_, _, _, _, _, _, rfl⟩
      unfold riseB
      rw [List.all_eq_true]
      intro i hi
      rw [List.all_eq_true]
      exact fun j hj => hr i (List.mem_range.mp hi) j (List.mem_range.mp hj)
    · obtain ⟨k, s2, s3, s4, s6, s7, hk, hk2, hr, rfl⟩ := h
      have hl2 : 2 ^ n - k = (2 ^ n - (k + 1)) + 1 := by
        have := congrArg List.length hk
        simp at this
        omega
      rw [hl2, List.range'_succ] at hk
      obtain ⟨rfl, rfl⟩ := List.cons.inj hk
      have hx : x < 2 ^ n := by omega
      simp only [gN, sFor, wIs]
      show forGo _ _ _ ((lotsN n).map lotD) _
      rw [hlots]
      refine for_ind (α := Nat) (fun k => lotD (lotK n k)) (fun xs e => ∃ j s3 s4 s6 s7, xs = List.range' j (2 ^ n - j) ∧ j ≤ 2 ^ n ∧ (∀ i, i < j → rise1 ws x i = true) ∧ e = [.val (gD n ws), .val (.lst ((lotsN n).map lotD)), .val (lotD (lotK n x)), s3, s4, .no, s6, s7]) (fun e h => ?_) (fun y ys e h R2 hR2 => ?_) _ _ ⟨0, s3, s4, s6, s7, List.range_eq_range', by omega, fun i h => by omega, by rw [hlots]; rfl⟩
      · obtain ⟨j, s3, s4, s6, s7, hj, hj2, hr2, rfl⟩ := h
        have hj := congrArg List.length hj
        have : j = 2 ^ n := by
          simp at hj
          omega
        subst this
        refine hR _ ⟨x + 1, _, _, _, _, _, rfl, by omega, fun i hi j hj => ?_, rfl⟩
        by_cases e : i = x
        · subst e
          exact hr2 j hj
        · exact hr i (by omega) j hj
      · obtain ⟨j, s3, s4, s6, s7, hj, hj2, hr2, rfl⟩ := h
        have hl3 : 2 ^ n - j = (2 ^ n - (j + 1)) + 1 := by
          have := congrArg List.length hj
          simp at this
          omega
        rw [hl3, List.range'_succ] at hj
        obtain ⟨rfl, rfl⟩ := List.cons.inj hj
        have hy : y < 2 ^ n := by omega
        obtain ⟨m1, m2, m3⟩ := lot_num n (by omega) x hx
        obtain ⟨n1, n2, n3⟩ := lot_num n (by omega) y hy
        obtain ⟨o1, o2⟩ := lot_or n (by omega) x hx y hy
        obtain ⟨a1, a2⟩ := lot_and n (by omega) x hx y hy
        simp only [gN]
        refine seq_step [.val (gD n ws), .val (.lst ((lotsN n).map lotD)), .val (lotD (lotK n x)), .val (lotD (lotK n y)), .val (.int ((x ||| y : Nat) : Int)), .no, s6, s7] (fun E' _ _ _ hE' => ?_) ?_
        · simp only [sSet, wVal, wCall, wCons, wOf, wLC, wR1]
          refine ⟨_, _, rfl, lk_n _ _, _, rfl, by omega, ?_⟩
          rw [show rgD 0 1 ((n : Nat) : Int).toNat = (List.range n).map fun i => D.int (i : Nat) from rgD_nat n]
          refine ⟨by simp; rfl, ?_⟩
          refine lc_map (α := Nat) (i := 5) (fun i => D.int (i : Nat)) (fun i => D.int (i : Nat)) (fun i => (lotK n x).contains i || (lotK n y).contains i) rfl (List.range n) [] (fun i hi k hk => ?_) (fun i hi _ k hk => by simpa using hk) (by simpa using small_sz (by omega)) ?_
          · refine tt_in (i := 2) (j := 5) rfl rfl ?_
            cases hc : (lotK n x).contains i with
            | true =>
              rw [hc, Bool.true_or] at hk
              exact hk
            | false =>
              rw [hc, Bool.false_or] at hk
              exact tt_in (i := 3) (j := 5) rfl rfl hk
          · simp only [List.nil_append]
            refine ⟨_, rfl, rfl, (List.range n).filter (fun i => (lotK n x).contains i || (lotK n y).contains i), _, rfl, .inr rfl, fun i hi => ?_, ?_, ?_⟩
            · have := List.mem_range.mp ((List.mem_filter.mp hi).1)
              omega
            · have := List.length_filter_le (fun i => (lotK n x).contains i || (lotK n y).contains i) (List.range n)
              simp only [List.length_range] at this
              omega
            · rw [o1]
              exact hE'
        refine seq_step [.val (gD n ws), .val (.lst ((lotsN n).map lotD)), .val (lotD (lotK n x)), .val (lotD (lotK n y)), .val (.int ((x ||| y : Nat) : Int)), .no, .val (.int ((x &&& y : Nat) : Int)), s7] (fun E' _ _ _ hE' => ?_) ?_
        · simp only [sSet, wVal, wCall, wCons, wOf, wLC, wIs]
          refine ⟨by simp; rfl, ?_⟩
          refine lc_map (α := Nat) (i := 5) (fun i => D.int (i : Nat)) (fun i => D.int (i : Nat)) (fun i => (lotK n y).contains i) rfl (lotK n x) [] (fun i hi k hk => tt_in (i := 3) (j := 5) rfl rfl hk) (fun i hi _ k hk => by simpa using hk) (by simpa using small_sz (by omega)) ?_
          simp only [List.nil_append]
          refine ⟨_, rfl, rfl, (lotK n x).filter (fun i => (lotK n y).contains i), _, rfl, .inr rfl, fun i hi => ?_, ?_, ?_⟩
          · have := m3 i ((List.mem_filter.mp hi).1)
            omega
          · have := List.length_filter_le (fun i => (lotK n y).contains i) (lotK n x)
            omega
          · rw [a1]
            exact hE'
        refine seq_step [.val (gD n ws), .val (.lst ((lotsN n).map lotD)), .val (lotD (lotK n x)), .val (lotD (lotK n y)), .val (.int ((x ||| y : Nat) : Int)), .no, .val (.int ((x &&& y : Nat) : Int)), .val (.int (ws.getD x 0 + ws.getD y 0))] (fun E' _ _ _ hE' => ?_) ?_
        · simp [gD, S_number_of_lot, tuI, lotD, -List.getD_eq_getElem?_getD]
          refine ⟨lotK n x, rfl, fun i hi => by have := m3 i hi; omega, by omega, _, at_ints (by rw [m1, hl]; exact hx), lotK n y, rfl, fun i hi => by have := n3 i hi; omega, by omega, _, at_ints (by rw [n1, hl]; exact hy), ?_⟩
          rw [m1, n1]
          simpa [gD, tuI, lotD, -List.getD_eq_getElem?_getD] using hE'
        have fin : ∀ b, rise1 ws x y = b → True := fun _ _ => trivial
        simp [gD, tuI, lotD, -List.getD_eq_getElem?_getD]
        refine ⟨_, at_ints (by omega), _, at_ints (by omega), ?_⟩
        have hrt' : E.rt (.bl false) = fun _ => q (.bl false) := by rw [hrt]
        by_cases hc : ws.getD (x ||| y) 0 + ws.getD (x &&& y) 0 < ws.getD x 0 + ws.getD y 0
        · refine .inr ⟨by simpa [-List.getD_eq_getElem?_getD] using hc, ?_⟩
          refine no ?_ _
          cases hB : riseB n ws with
          | false => rfl
          | true =>
            unfold riseB at hB
            rw [List.all_eq_true] at hB
            have h1 := hB x (List.mem_range.mpr hx)
            rw [List.all_eq_true] at h1
            have h2 := of_decide_eq_true (h1 y (List.mem_range.mpr hy))
            omega
        · refine .inl ⟨by simpa [-List.getD_eq_getElem?_getD] using hc, hR2 _ ⟨y + 1, .val (lotD (lotK n y)), .val (.int ((x ||| y : Nat) : Int)), .val (.int ((x &&& y : Nat) : Int)), .val (.int (ws.getD x 0 + ws.getD y 0)), rfl, by omega, fun i hi => ?_, rfl⟩⟩
          by_cases e : i = y
          · subst e
            exact decide_eq_true (by omega)
          · exact hr2 i (by omega)
  · obtain ⟨hr, s2, s3, s4, s6, s7, rfl⟩ := he
    simp
    rw [hr] at hq
    exact hq
end DL

/-! V6 (k27): what is drawn. -/
namespace DL
open PySem PySem.Spec PyProof.Rows L2
theorem wR2_one {wa : WA} {e : En} {r : List D → En → Prop} (n : Nat) (h0 : 1 ≤ n) (hn : n ≤ 1000000) (ha : ∀ k : List Ar → En → Prop, k [.d (.int 1), .d (.int (n : Nat))] e → wa e k) (h : r ((List.range (n - 1)).map fun i => D.int (1 + (i : Nat))) e) : wR2 wa e r := by
  refine ha _ ⟨_, _, rfl, ⟨by omega, by omega, by omega, by omega⟩, ?_⟩
  have e1 : ((n : Nat) - (1 : Int)).toNat = n - 1 := by omega
  rw [e1]
  have e2 : rgD 1 1 (n - 1) = (List.range (n - 1)).map fun i => D.int (1 + (i : Nat)) := by
    unfold rgD
    exact List.map_congr_left fun i _ => by simp
  rw [e2]
  exact h
structure BigL (B : Int) (xs : List Int) : Prop where
  lo : ∀ x ∈ xs, -B ≤ x
  hi : ∀ x ∈ xs, x ≤ B
theorem sum_big {B : Int} (hB : 0 ≤ B) : ∀ {xs : List Int}, BigL B xs → -(xs.length * B) ≤ xs.sum ∧ xs.sum ≤ xs.length * B
  | [], _ => by simp
  | x :: xs, h => by
    have h1 := h.lo x List.mem_cons_self
    have h2 := h.hi x List.mem_cons_self
    obtain ⟨h3, h4⟩ := sum_big hB (xs := xs) ⟨fun y hy => h.lo y (List.mem_cons_of_mem _ hy), fun y hy => h.hi y (List.mem_cons_of_mem _ hy)⟩
    simp only [List.length_cons, List.sum_cons]
    have e : (((xs.length + 1 : Nat) : Nat) : Int) * B = xs.length * B + B := by
      rw [Int.natCast_add, Int.add_mul]
      simp
    rw [e]
    omega
theorem getD_big {B : Int} (hB : 0 ≤ B) {xs : List Int} (h : BigL B xs) (i : Nat) : -B ≤ xs.getD i 0 ∧ xs.getD i 0 ≤ B := by
  rw [List.getD_eq_getElem?_getD]
  by_cases hi : i < xs.length
  · rw [List.getElem?_eq_getElem hi]
    exact ⟨h.lo _ (List.getElem_mem hi), h.hi _ (List.getElem_mem hi)⟩
  · rw [List.getElem?_eq_none (by omega)]
    exact ⟨by simp; omega, hB⟩
/-- a worth list, made by a rule -/
theorem gok_map {n : Nat} (h0 : 1 ≤ n) (hn : n ≤ 4) (f : Nat → Int) (hz : f 0 = 0) (hb : ∀ i, -bigW ≤ f i ∧ f i ≤ bigW) : GOk n ((List.range (2 ^ n)).map f) := by
  have hp := (pow_le n (by omega)).2
  refine ⟨h0, hn, by simp, ?_, fun w hw => ?_⟩
  · rw [List.getD_eq_getElem?_getD, List.getElem?_map, List.getElem?_range (by omega)]
    exact hz
  · obtain ⟨i, _, rfl⟩ := List.mem_map.mp hw
    exact hb i
theorem sIf_eq {j : Nat} {c v : Int} {w u : WS} {e : En} {E : DEnds} (h : e[j]? = some (.val (.int v))) (h1 : v = c → w e E) (h2 : v ≠ c → u e E) : sIf (wTB (w2 oEq (wB j) (wOf (wC (.int c))))) w u e E := by
  simp only [sIf, wTB, w2, wOf, wB, wC, h]
  refine ⟨trivial, [.int v, .int c], by simp [h], .inl ⟨rfl, rfl⟩, eqD (.int v) (.int c), rfl, ?_⟩
  by_cases e : v = c
  · rw [if_pos (by simpa [eqD] using e)]
    exact h1 e
  · rw [if_neg (by simpa [eqD] using e)]
    exact h2 e
theorem v__law_worths (J : GJ) (ds : List D) (q : D → Prop) (_ : ds.length = 2) (h : S__law_worths J ds q) : w__law_worths J (startE N__law_worths ds) (EndQ q) := by
  obtain ⟨a, n, rfl, hJ, h0, hn, hq⟩ := h
  have hp := (pow_le n (by omega)).2
  have p16 := (pow_le n (by omega)).1
  refine seq_stepP (fun e => ∃ sort : Int, e = [.val (.tk a), .val (.int (n : Nat)), .val (.int ((2 ^ n : Nat) : Int)), .val (.int sort), .no, .no, .no, .no, .no, .no, .no, .no, .no]) (fun E _ _ _ hE => ?_) fun e he => ?_
  · simp only [sPar, wVal, w2, wOf, wLst, wCons, wC, wNil, wB]
    refine ⟨_, rfl, by decide, trivial, _, rfl, _, two_at hn, ?_⟩
    exact w_draw hJ rfl (ev_c _) (by decide) (by decide) fun r _ _ => hE _ ⟨r, by simp⟩
  obtain ⟨sort, rfl⟩ := he
  refine seq_stepP (fun e => ∃ W : Int, 1 ≤ W ∧ W ≤ 100000000000000000000 ∧ e = [.val (.tk a), .val (.int (n : Nat)), .val (.int ((2 ^ n : Nat) : Int)), .val (.int sort), .val (.int W), .no, .no, .no, .no, .no, .no, .no, .no]) (fun E _ _ _ hE => ?_) fun e he => ?_
  · simp only [sSet, wVal]
    refine w_some (xs := [.int 1, .int 9, .int (10 ^ 20)]) hJ rfl (fun q hq => by simp; exact ⟨⟨by decide, by decide, by decide⟩, hq⟩) (by simp) (by simp) fun x hx => ?_
    simp only [List.mem_cons, List.not_mem_nil, or_false] at hx
    rcases hx with rfl | rfl | rfl
    · exact hE _ ⟨_, by decide, by decide, rfl⟩
    · exact hE _ ⟨_, by decide, by decide, rfl⟩
    · exact hE _ ⟨_, by decide, by decide, rfl⟩
  obtain ⟨W, w0, w1, rfl⟩ := he
  -- what all ways end with
  let Good : En → Prop := fun e => ∃ ws s6 s7 s8 s9 s10 s11 s12, GOk n ws ∧ e = [.val (.tk a), .val (.int (n : Nat)), .val (.int ((2 ^ n : Nat) : Int)), .val (.int sort), .val (.int W), .val (liI ws), s6, s7, s8, s9, s10, s11, s12]
  have big : ∀ ns : List Int, ns.length = 2 ^ n - 1 → BigL W ns → GOk n (0 :: ns) := fun ns hl hb => by
    refine ⟨h0, hn, by simp; omega, rfl, fun w hw => ?_⟩
    have : W ≤ bigW := by show W ≤ 10000000000000000000000; omega
    rcases List.mem_cons.mp hw with rfl | hw
    · exact ⟨by decide, by decide⟩
    · have := hb.lo w hw
      have := hb.hi w hw
      omega
  refine seq_stepP (fun e => ∃ ws, GOk n ws ∧ e = [.val (.tk a), .val (.int (n : Nat)), .val (.int ((2 ^ n : Nat) : Int)), .val (.int sort), .val (.int W), .val (liI ws), .no, .no, .no, .no, .no, .no, .no]) (fun E _ _ _ hE => ?_) fun e he => ?_
  · simp only [sSet, wVal, w2, wOf, wLst, wCons, wC, wNil]
    refine ⟨_, rfl, by decide, ?_⟩
    refine wLC_draw (α := Nat) (fun i => D.int (1 + (i : Nat))) (fun r => -W ≤ r ∧ r ≤ W) (List.range (2 ^ n - 1)) rfl (fun r hr => wR2_one (2 ^ n) (by omega) (by omega) (fun k hk => by simp; simpa using hk) hr) (fun i _ k hk => ?_) (by simp; omega) fun ns h1 h2 => ?_
    · simp only [w2, wOf, wB]
      refine w_draw (m := 2 * W + 1) hJ rfl (fun q hq => by simp; exact ⟨.inl ⟨by decide, by decide⟩, hq⟩) (by omega) (by show 2 * W + 1 ≤ 200000000000000000001; omega) fun r r0 r1 => ?_
      simpa using hk (r - W) ⟨by omega, by omega⟩
    · simp only [List.length_range] at h1
      refine ⟨_, rfl, small_sz (by simp; omega), hE _ ⟨0 :: ns, big ns h1 ⟨fun x hx => (h2 x hx).1, fun x hx => (h2 x hx).2⟩, ?_⟩⟩
      simp [liI]
  obtain ⟨ws0, g0, rfl⟩ := he
  have rngN : ∀ {e : En}, e[2]? = some (.val (.int ((2 ^ n : Nat) : Int))) → ∀ r : List D → En → Prop, r ((List.range (2 ^ n)).map fun i => D.int (i : Nat)) e → wR1 (wCons (wOf (wVar 2)) wNil) e r := fun h r hr => wR1_var h (by omega) hr
  have wBig : W ≤ bigW := by show W ≤ 10000000000000000000000; omega
  refine seq_stepP (fun e => ∃ ws s7, GOk n ws ∧ e = [.val (.tk a), .val (.int (n : Nat)), .val (.int ((2 ^ n : Nat) : Int)), .val (.int sort), .val (.int W), .val (liI ws), .no, s7, .no, .no, .no, .no, .no]) (fun E _ _ _ hE => ?_) fun e he => ?_
  · -- sums of parts
    refine sIf_eq rfl (fun hs => ?_) fun hs => hE _ ⟨ws0, .no, g0, rfl⟩
    subst hs
    refine seq_stepP (fun e => ∃ ps : List Int, ps.length = 2 ^ n ∧ ps.getD 0 0 = 0 ∧ BigL W ps ∧ e = [.val (.tk a), .val (.int (n : Nat)), .val (.int ((2 ^ n : Nat) : Int)), .val (.int 0), .val (.int W), .val (liI ws0), .no, .val (liI ps), .no, .no, .no, .no, .no]) (fun E2 _ _ _ hE2 => ?_) fun e he => ?_
    · simp only [sSet, wVal, w2, wOf, wLst, wCons, wC, wNil]
      refine ⟨_, rfl, by decide, ?_⟩
      refine wLC_draw (α := Nat) (fun i => D.int (1 + (i : Nat))) (fun r => 0 ≤ r ∧ r ≤ W) (List.range (2 ^ n - 1)) rfl (fun r hr => wR2_one (2 ^ n) (by omega) (by omega) (fun k hk => by simp; simpa using hk) hr) (fun i _ k hk => ?_) (by simp; omega) fun ns h1 h2 => ?_
      · refine w_draw (m := W + 1) hJ rfl (fun q hq => by simpa using hq) (by omega) (by show W + 1 ≤ 200000000000000000001; omega) fun r r0 r1 => hk r ⟨r0, by omega⟩
      · simp only [List.length_range] at h1
        refine ⟨_, rfl, small_sz (by simp; omega), hE2 _ ⟨0 :: ns, by simp; omega, rfl, ⟨fun x hx => ?_, fun x hx => ?_⟩, by simp [liI]⟩⟩
        · rcases List.mem_cons.mp hx with rfl | hx
          · omega
          · have := (h2 x hx).1
            omega
        · rcases List.mem_cons.mp hx with rfl | hx
          · omega
          · exact (h2 x hx).2
    · obtain ⟨ps, l1, l2, l3, rfl⟩ := he
      simp only [sSet, wVal]
      refine wLC_map (α := Nat) (fun i => D.int (i : Nat)) (fun k => D.int ((((List.range (2 ^ n)).filter fun o => subN o k).map fun o => ps.getD o 0).sum)) (List.range (2 ^ n)) rfl (rngN rfl) (fun k hk c hc => ?_) (by simp; omega) ?_
      · simp only [wPr, wCons, wOf]
        refine wLC_filter (α := Nat) (fun i => D.int (i : Nat)) (fun o => D.int (ps.getD o 0)) (fun o => subN o k) (List.range (2 ^ n)) rfl (rngN rfl) (fun o ho c2 hc2 => ?_) (fun o ho _ c2 hc2 => ?_) (by simp; omega) ?_
        · simp only [wTB, w2, wOf, wB]
          refine ⟨trivial, trivial, _, rfl, ⟨by omega, by omega⟩, trivial, _, rfl, .inl ⟨rfl, rfl⟩, _, rfl, ?_⟩
          have e1 : eqD (.int (((((o : Nat) : Int).toNat &&& ((k : Nat) : Int).toNat : Nat)) : Int)) (.int (o : Nat)) = subN o k := by
            simp only [eqD, Int.toNat_natCast, subN]
            rw [Bool.eq_iff_iff, beq_iff_eq, beq_iff_eq]
            omega
          rw [e1]
          exact hc2
        · simp only [w2, wB]
          exact ⟨trivial, trivial, _, rfl, _, at_ints (by rw [l1]; exact List.mem_range.mp ho), hc2⟩
        · exact ⟨_, rfl, ((List.range (2 ^ n)).filter fun o => subN o k).map fun o => ps.getD o 0, by simp, hc⟩
      · refine hE _ ⟨(List.range (2 ^ n)).map fun k => (((List.range (2 ^ n)).filter fun o => subN o k).map fun o => ps.getD o 0).sum, .val (liI ps), gok_map h0 hn _ ?_ (fun i => ?_), by simp [liI, Function.comp_def]⟩
        · have : ((List.range (2 ^ n)).filter fun o => subN o 0) = [0] := by
            have h1 : ∀ m, m < 5 → ((List.range (2 ^ m)).filter fun o => subN o 0) = [0] := by decide +kernel
            exact h1 n (by omega)
          rw [this]
          simpa using l2
        · have hb : BigL W (((List.range (2 ^ n)).filter fun o => subN o i).map fun o => ps.getD o 0) := ⟨fun x hx => by
            obtain ⟨o, _, rfl⟩ := List.mem_map.mp hx
            exact (getD_big (by omega) l3 o).1, fun x hx => by
            obtain ⟨o, _, rfl⟩ := List.mem_map.mp hx
            exact (getD_big (by omega) l3 o).2⟩
          obtain ⟨b1, b2⟩ := sum_big (by omega) hb
          have hlen : (((List.range (2 ^ n)).filter fun o => subN o i).map fun o => ps.getD o 0).length ≤ 16 := by
            have := List.length_filter_le (fun o => subN o i) (List.range (2 ^ n))
            simp only [List.length_map, List.length_range] at this ⊢
            omega
          have hm : ((((List.range (2 ^ n)).filter fun o => subN o i).map fun o => ps.getD o 0).length : Int) * W ≤ 16 * W := Int.mul_le_mul_of_nonneg_right (by omega) (by omega)
          refine ⟨?_, ?_⟩
          · show -10000000000000000000000 ≤ _
            omega
          · show _ ≤ (10000000000000000000000 : Int)
            omega
  obtain ⟨ws1, s7, g1, rfl⟩ := he
  refine seq_stepP (fun e => ∃ ws s9 s10, GOk n ws ∧ e = [.val (.tk a), .val (.int (n : Nat)), .val (.int ((2 ^ n : Nat) : Int)), .val (.int sort), .val (.int W), .val (liI ws), .no, s7, .no, s9, s10, .no, .no]) (fun E _ _ _ hE => ?_) fun e he => ?_
  · -- votes
    refine sIf_eq rfl (fun hs => ?_) fun hs => hE _ ⟨ws1, .no, .no, g1, rfl⟩
    subst hs
    refine seq_stepP (fun e => ∃ (hs : List Int) (qu : Int), hs.length = n ∧ 1 ≤ qu ∧ e = [.val (.tk a), .val (.int (n : Nat)), .val (.int ((2 ^ n : Nat) : Int)), .val (.int 1), .val (.int W), .val (liI ws1), .no, s7, .no, .val (liI hs), .val (.int qu), .no, .no]) (fun E2 _ _ _ hE2 => ?_) fun e he => ?_
    · simp only [sPar, wVal]
      refine wLC_draw (α := Nat) (fun i => D.int (i : Nat)) (fun r => True) (List.range n) rfl (fun r hr => wR1_var rfl (by omega) hr) (fun i _ k hk => ?_) (by simp; omega) fun ns h1 h2 => ?_
      · simp only [w2, wOf, wC]
        refine w_draw hJ rfl (ev_c _) (by decide) (by decide) fun r r0 r1 => ?_
        exact ⟨_, rfl, hk _ trivial⟩
      · simp only [w2, wOf, wC]
        refine w_draw hJ rfl (ev_c _) (by decide) (by decide) fun r r0 r1 => ?_
        refine ⟨_, rfl, hE2 _ ⟨ns, 1 + r, by simpa using h1, by omega, by simp [liI]⟩⟩
    · obtain ⟨hs, qu, l1, l2, rfl⟩ := he
      let S : Nat → Int := fun k => (((List.range n).filter fun i => decide (0 < (k &&& 2 ^ i))).map fun i => hs.getD i 0).sum
      simp only [sSet, wVal]
      refine wLC_map (α := Nat) (fun i => D.int (i : Nat)) (fun k => D.int (if decide (qu ≤ S k) = true then 1 else 0)) (List.range (2 ^ n)) rfl (rngN rfl) (fun k hk c hc => ?_) (by simp; omega) ?_
      · simp only [wPr, wCons, wOf, w2]
        refine wLC_filter (α := Nat) (fun i => D.int (i : Nat)) (fun i => D.int (hs.getD i 0)) (fun i => decide (0 < (k &&& 2 ^ i))) (List.range n) rfl (fun r hr => wR1_var rfl (by omega) hr) (fun i hi c2 hc2 => ?_) (fun i hi _ c2 hc2 => ?_) (by simp; omega) ?_
        · have hi := List.mem_range.mp hi
          simp only [wTB, w2, wOf, wB, wC]
          refine ⟨trivial, wCall_of [.int (i : Nat)] (argR_cons (ev_var rfl) argR_nil) rfl ⟨i, rfl, by omega, ?_⟩⟩
          refine ⟨_, rfl, ⟨by omega, Int.natCast_nonneg _⟩, _, rfl, ?_⟩
          simp only [oGt, oCmp]
          refine ⟨_, rfl, ?_⟩
          have e1 : decide ((0 : Int) < (((((k : Nat) : Int).toNat &&& ((2 ^ i : Nat) : Int).toNat : Nat)) : Int)) = decide (0 < (k &&& 2 ^ i)) := by
            rw [Int.toNat_natCast, Int.toNat_natCast]
            rw [Bool.eq_iff_iff, decide_eq_true_eq, decide_eq_true_eq]
            omega
          rw [e1]
          exact hc2
        · simp only [w2, wB]
          exact ⟨trivial, trivial, _, rfl, _, at_ints (by rw [l1]; exact List.mem_range.mp hi), hc2⟩
        · refine ⟨_, rfl, ((List.range n).filter fun i => decide (0 < (k &&& 2 ^ i))).map fun i => hs.getD i 0, by simp, ?_⟩
          simp only [wB]
          exact ⟨trivial, _, rfl, _, rfl, hc⟩
      · refine hE _ ⟨(List.range (2 ^ n)).map fun k => (if decide (qu ≤ S k) = true then 1 else 0 : Int), .val (liI hs), .val (.int qu), gok_map h0 hn _ ?_ (fun i => ?_), by simp [liI, Function.comp_def]⟩
        · have e0 : S 0 = 0 := by
            have : ((List.range n).filter fun i => decide (0 < (0 &&& 2 ^ i))) = [] := List.filter_eq_nil_iff.mpr fun i _ => by simp
            show (((List.range n).filter fun i => decide (0 < (0 &&& 2 ^ i))).map fun i => hs.getD i 0).sum = 0
            rw [this]
            rfl
          rw [e0, if_neg (by simp; omega)]
        · split <;> exact ⟨by decide, by decide⟩
  obtain ⟨ws2, s9, s10, g2, rfl⟩ := he
  refine seq_stepP (fun e => ∃ ws s12, GOk n ws ∧ e = [.val (.tk a), .val (.int (n : Nat)), .val (.int ((2 ^ n : Nat) : Int)), .val (.int sort), .val (.int W), .val (liI ws), .no, s7, .no, s9, s10, .no, s12]) (fun E _ _ _ hE => ?_) fun e he => ?_
  · -- by sizes
    refine sIf_eq rfl (fun hs => ?_) fun hs => hE _ ⟨ws2, .no, g2, rfl⟩
    subst hs
    refine seq_stepP (fun e => ∃ ps : List Int, ps.length = n + 1 ∧ ps.getD 0 0 = 0 ∧ BigL W ps ∧ e = [.val (.tk a), .val (.int (n : Nat)), .val (.int ((2 ^ n : Nat) : Int)), .val (.int 2), .val (.int W), .val (liI ws2), .no, s7, .no, s9, s10, .no, .val (liI ps)]) (fun E2 _ _ _ hE2 => ?_) fun e he => ?_
    · simp only [sSet, wVal, w2, wOf, wLst, wCons, wC, wNil]
      refine ⟨_, rfl, by decide, ?_⟩
      refine wLC_draw (α := Nat) (fun i => D.int (i : Nat)) (fun r => 0 ≤ r ∧ r ≤ W) (List.range n) rfl (fun r hr => wR1_var rfl (by omega) hr) (fun i _ k hk => ?_) (by simp; omega) fun ns h1 h2 => ?_
      · refine w_draw (m := W + 1) hJ rfl (fun q hq => by simpa using hq) (by omega) (by show W + 1 ≤ 200000000000000000001; omega) fun r r0 r1 => hk r ⟨r0, by omega⟩
      · simp only [List.length_range] at h1
        refine ⟨_, rfl, small_sz (by simp; omega), hE2 _ ⟨0 :: ns, by simp; omega, rfl, ⟨fun x hx => ?_, fun x hx => ?_⟩, by simp [liI]⟩⟩
        · rcases List.mem_cons.mp hx with rfl | hx
          · omega
          · have := (h2 x hx).1
            omega
        · rcases List.mem_cons.mp hx with rfl | hx
          · omega
          · exact (h2 x hx).2
    · obtain ⟨ps, l1, l2, l3, rfl⟩ := he
      let C : Nat → Nat := fun k => ((List.range n).filter fun i => decide (0 < (k &&& 2 ^ i))).length
      have hC : ∀ k, C k ≤ n := fun k => by
        have := List.length_filter_le (fun i => decide (0 < (k &&& 2 ^ i))) (List.range n)
        simpa using this
      simp only [sSet, wVal]
      refine wLC_map (α := Nat) (fun i => D.int (i : Nat)) (fun k => D.int (ps.getD (C k) 0)) (List.range (2 ^ n)) rfl (rngN rfl) (fun k hk c hc => ?_) (by simp; omega) ?_
      · simp only [w2, wPr, wCons, wOf, wB]
        refine ⟨trivial, ?_⟩
        refine wLC_filter (α := Nat) (fun i => D.int (i : Nat)) (fun i => D.int (i : Nat)) (fun i => decide (0 < (k &&& 2 ^ i))) (List.range n) rfl (fun r hr => wR1_var rfl (by omega) hr) (fun i hi c2 hc2 => ?_) (fun i hi _ c2 hc2 => ev_var rfl _ hc2) (by simp; omega) ?_
        · have hi := List.mem_range.mp hi
          simp only [wTB, w2, wOf, wB, wC]
          refine ⟨trivial, wCall_of [.int (i : Nat)] (argR_cons (ev_var rfl) argR_nil) rfl ⟨i, rfl, by omega, ?_⟩⟩
          refine ⟨_, rfl, ⟨by omega, Int.natCast_nonneg _⟩, _, rfl, ?_⟩
          simp only [oGt, oCmp]
          refine ⟨_, rfl, ?_⟩
          have e1 : decide ((0 : Int) < (((((k : Nat) : Int).toNat &&& ((2 ^ i : Nat) : Int).toNat : Nat)) : Int)) = decide (0 < (k &&& 2 ^ i)) := by
            rw [Int.toNat_natCast, Int.toNat_natCast]
            rw [Bool.eq_iff_iff, decide_eq_true_eq, decide_eq_true_eq]
            omega
          rw [e1]
          exact hc2
        · refine ⟨_, rfl, ?_⟩
          simp only [oLen, List.length_map]
          exact ⟨_, rfl, _, at_ints (by have := hC k; show C k < _; omega), hc⟩
      · refine hE _ ⟨(List.range (2 ^ n)).map fun k => ps.getD (C k) 0, .val (liI ps), gok_map h0 hn _ ?_ (fun i => ?_), by simp [liI, Function.comp_def]⟩
        · have e0 : C 0 = 0 := by
            have : ((List.range n).filter fun i => decide (0 < (0 &&& 2 ^ i))) = [] := List.filter_eq_nil_iff.mpr fun i _ => by simp
            show ((List.range n).filter fun i => decide (0 < (0 &&& 2 ^ i))).length = 0
            rw [this]
            rfl
          rw [e0]
          exact l2
        · obtain ⟨b1, b2⟩ := getD_big (by omega) l3 (C i)
          omega
  obtain ⟨ws3, s12, g3, rfl⟩ := he
  simp [liI]
  exact hq _ g3
end DL

/-! V7 (k27): brought, refused. -/
namespace DL
open PySem PySem.Spec PyProof.Rows L2
theorem ev_ix {e : En} {i : Nat} {d : D} {xs : List D} {wj : WE} {k : Int} (h : e[i]? = some (.val (.tup xs)) ∨ e[i]? = some (.val (.lst xs))) (hj : Ev e wj (.int k)) (ha : atI xs k = some d) : Ev e (w2 oIx (wB i) (wOf wj)) d := fun q hq => by
  rcases h with h | h
  · simp only [w2, wOf]
    simp only [wB, h]
    exact ⟨trivial, hj _ ⟨[.tup xs, .int k], by simp [h], _, ha, hq⟩⟩
  · simp only [w2, wOf]
    simp only [wB, h]
    exact ⟨trivial, hj _ ⟨[.lst xs, .int k], by simp [h], _, ha, hq⟩⟩
theorem ev_ixB {e : En} {i j : Nat} {d : D} {xs : List D} {k : Int} (h : e[i]? = some (.val (.tup xs)) ∨ e[i]? = some (.val (.lst xs)) ∨ e[i]? = some (.own xs)) (hj : e[j]? = some (.val (.int k))) (ha : atI xs k = some d) : Ev e (w2 oIx (wB i) (wB j)) d := fun q hq => by
  rcases h with h | h | h <;> simp [h, hj] <;> exact ⟨_, ha, hq⟩
theorem ev_sub {e : En} {wa wb : WE} {x y : Int} (ha : Ev e wa (.int x)) (hb : Ev e wb (.int y)) : Ev e (w2 oSub (wOf wa) (wOf wb)) (.int (x - y)) := fun q hq => by
  simp only [w2, wOf]
  exact ha _ (hb _ ⟨_, rfl, hq⟩)
theorem ev_add {e : En} {wa wb : WE} {x y : Int} (ha : Ev e wa (.int x)) (hb : Ev e wb (.int y)) : Ev e (w2 oAdd (wOf wa) (wOf wb)) (.int (x + y)) := fun q hq => by
  simp only [w2, wOf]
  exact ha _ (hb _ ⟨_, rfl, hq⟩)
theorem orN_snoc (l : List Nat) (i : Nat) : orN (l ++ [i]) = (orN l ||| 2 ^ i) := by simp [orN, List.foldl_append]
theorem v__law_brought (J : GJ) (ds : List D) (q : D → Prop) (_ : ds.length = 2) (h : S__law_brought J ds q) : w__law_brought J (startE N__law_brought ds) (EndQ q) := by
  obtain ⟨n, ws, o, rfl, hg, ho, hq⟩ := h
  have hn := hg.hi
  have hl := hg.len
  have ok := ordOk hn ho
  refine seq_step [.val (tuI ws), .val (lotD o), .own ((fndI n ws o 0).map D.int), .val (.int 0), .no] (fun E _ _ _ hE => ?_) ?_
  · rw [fnd_zero] at hE
    simp [lotD, natD_length, ok.len]
    refine ⟨by omega, small_sz (by omega), by simpa [lotD] using hE⟩
  refine seq_stepP (fun e => ∃ s3 s4, e = [.val (tuI ws), .val (lotD o), .own ((fndI n ws o n).map D.int), s3, s4]) (fun E _ _ _ hE => ?_) fun e he => ?_
  · simp only [sFor]
    refine wIs_tup (xs := natD o) rfl ?_
    refine for_ind (α := Nat) (fun i => D.int (i : Nat)) (fun xs e => ∃ j s4, xs = o.drop j ∧ j ≤ n ∧ e = [.val (tuI ws), .val (lotD o), .own ((fndI n ws o j).map D.int), .val (.int (orN (o.take j) : Nat)), s4]) (fun e h => ?_) (fun x xs e h R hR => ?_) o _ ⟨0, .no, rfl, by omega, rfl⟩
    · obtain ⟨j, s4, hj, hj2, rfl⟩ := h
      have hj := congrArg List.length hj
      have : j = n := by
        have := ok.len
        simp at hj
        omega
      subst this
      exact hE _ ⟨_, _, rfl⟩
    · obtain ⟨j, s4, hj, hj2, rfl⟩ := h
      have hjl : j < o.length := by
        have := congrArg List.length hj
        simp at this
        omega
      rw [List.drop_eq_getElem_cons hjl] at hj
      obtain ⟨rfl, rfl⟩ := List.cons.inj hj
      have hjn : j < n := by rw [← ok.len]; exact hjl
      have hp : o[j] < n := ok.lt _ (List.getElem_mem hjl)
      have ht : o.take (j + 1) = o.take j ++ [o[j]] := by rw [List.take_succ, List.getElem?_eq_getElem hjl]; rfl
      obtain ⟨t1, t2⟩ := ordNum hn ho (j := j) (by omega)
      obtain ⟨t3, t4⟩ := ordNum hn ho (j := j + 1) (by omega)
      have e1 : (orN (o.take j) ||| 2 ^ o[j]) = numN (o.take (j + 1)) := by rw [← t3, ht, orN_snoc]
      have ej : o.getD j 0 = o[j] := by rw [List.getD_eq_getElem?_getD, List.getElem?_eq_getElem hjl]; rfl
      have orv : ∀ {e : En} {i4 : Nat}, e[3]? = some (.val (.int (orN (o.take j) : Nat))) → e[i4]? = some (.val (.int (o[j] : Nat))) → Ev e (w2 oBor (wB 3) (wOf (wCall J S__law_bit 1 (wCons (wOf (wVar i4)) wNil)))) (.int (numN (o.take (j + 1)) : Nat)) := fun {e i4} h3 h4 q hq => by
        simp only [w2, wB, wOf, h3]
        refine ⟨trivial, wCall_of [.int (o[j] : Nat)] (argR_cons (ev_var h4) argR_nil) rfl ⟨o[j], rfl, by omega, ?_⟩⟩
        refine ⟨[.int (orN (o.take j) : Nat), .int ((2 ^ o[j] : Nat) : Int)], by simp [h3], ⟨Int.natCast_nonneg _, Int.natCast_nonneg _⟩, ?_⟩
        rw [Int.toNat_natCast, Int.toNat_natCast, e1]
        exact hq
      simp only [gN]
      refine seq_step [.val (tuI ws), .val (lotD o), .own ((fndI n ws o (j + 1)).map D.int), .val (.int (orN (o.take j) : Nat)), .val (.int (o[j] : Nat))] (fun E' _ _ _ hE' => ?_) ?_
      · simp only [wSetAt]
        refine ev_sub (ev_ix (.inl rfl) (orv (i4 := 4) rfl rfl) (at_ints (by rw [hl]; exact t4))) (ev_ixB (.inl rfl) rfl (at_ints (by rw [hl, t1]; exact t2))) _ ?_
        simp only [gIxL]
        refine ⟨⟨_, rfl⟩, ev_var rfl _ ⟨_, _, _, rfl, rfl, by rw [List.length_map, fnd_len]; exact ixN_nat hp, ?_⟩⟩
        have e2 : ((fndI n ws o j).map D.int).set o[j] (.int (ws.getD (numN (o.take (j + 1))) 0 - ws.getD (orN (o.take j)) 0)) = (fndI n ws o (j + 1)).map D.int := by
          rw [← fnd_step ok hjn, ej, List.map_set, t1]
          rfl
        rw [e2]
        exact hE'
      · simp only [sSet, wVal]
        refine orv (i4 := 4) rfl rfl _ (hR _ ⟨j + 1, .val (.int (o[j] : Nat)), rfl, by omega, ?_⟩)
        rw [← t3]
        rfl
  · obtain ⟨s3, s4, rfl⟩ := he
    simp
    exact hq
theorem v__law_is_refused (J : GJ) (ds : List D) (q : D → Prop) (_ : ds.length = 3) (h : S__law_is_refused J ds q) : w__law_is_refused J (startE N__law_is_refused ds) (EndQ q) := by
  obtain ⟨a, n, ws, rfl, hJ, hg, hq⟩ := h
  have h0 := hg.lo
  have hn := hg.hi
  refine seq_step [.val (.tk a), .val (gD n ws), .val (.int (n : Nat)), .val (.lst (badD n))] (fun E _ _ _ hE => ?_) ?_
  · simp [rgD_nat]
    exact ⟨by omega, ⟨by omega, by omega⟩, by omega, by omega, by omega, by omega, by omega, by omega, by simpa [S_is_order.badD, natD] using hE⟩
  refine seq_stepP (fun e => ∃ d ∈ badD n, e = [.val (.tk a), .val (gD n ws), .val (.int (n : Nat)), .val d]) (fun E _ _ _ hE => ?_) fun e he => ?_
  · simp only [sSet, wVal]
    exact w_some hJ rfl (ev_var rfl) (by simp [S_is_order.badD]) (by simp [S_is_order.badD]) fun x hx => hE _ ⟨x, hx, rfl⟩
  obtain ⟨d, hd, rfl⟩ := he
  simp only [sSeq, sTry0, sCallX]
  refine argR_cons (ev_var rfl) (argR_cons (ev_var rfl) argR_nil) _ fun as has => ⟨_, has, rfl, n, ws, d, rfl, hg, hd, ?_⟩
  exact ⟨true, by decide, hq⟩
end DL

/-! V8 (k27): one case. -/
namespace DL
open PySem PySem.Spec PyProof.Rows L2
theorem okS_ints {B : Int} (hB : B ≤ 10 ^ 100) : ∀ {xs : List Int}, BigL B xs → okSA (xs.map D.int) = true
  | [], _ => rfl
  | x :: xs, h => by
    have h1 := h.lo x List.mem_cons_self
    have h2 := h.hi x List.mem_cons_self
    have h3 := okS_ints hB (xs := xs) ⟨fun y hy => h.lo y (List.mem_cons_of_mem _ hy), fun y hy => h.hi y (List.mem_cons_of_mem _ hy)⟩
    simp only [List.map_cons, okSA, h3, Bool.and_true]
    exact okS_big (by omega) (by omega)
theorem rl_ints : ∀ xs : List Int, rlA (xs.map D.int) = xs.length * 1923
  | [] => by simp [rlA]
  | x :: xs => by
    simp only [List.map_cons, rlA, rl, List.length_cons, rl_ints xs]
    omega
theorem okE_tuI (k : Nat) (xs : List Int) : okE (k + 1) (tuI xs) = true := by simp [tuI, okE, okEA_ints]
theorem rl_tuI (xs : List Int) : rl (tuI xs) = xs.length * 1923 + 4 := by simp only [tuI, rl, rl_ints]
/-- a list of short rows of numbers -/
theorem rows_ok {B : Int} (hB : B ≤ 10 ^ 100) : ∀ (bs : List (List Int)) (k L : Nat), (∀ b ∈ bs, BigL B b ∧ b.length ≤ L) → okEA (k + 1) (bs.map tuI) = true ∧ okSA (bs.map tuI) = true ∧ rlA (bs.map tuI) ≤ bs.length * (L * 1923 + 6)
  | [], k, L, _ => by simp [rlA]
  | b :: bs, k, L, h => by
    obtain ⟨h1, h2⟩ := h b List.mem_cons_self
    obtain ⟨h3, h4, h5⟩ := rows_ok hB bs k L fun x hx => h x (List.mem_cons_of_mem _ hx)
    have h6 : okSA (b.map D.int) = true := okS_ints hB h1
    refine ⟨?_, ?_, ?_⟩
    · simp only [List.map_cons, okEA, okE_tuI, h3, Bool.and_self]
    · simp only [List.map_cons, okSA, h4, Bool.and_true]
      simpa [tuI, okS] using h6
    · simp only [List.map_cons, rlA, rl_tuI, List.length_cons]
      have : (bs.length + 1) * (L * 1923 + 6) = bs.length * (L * 1923 + 6) + (L * 1923 + 6) := by rw [Nat.add_mul, Nat.one_mul]
      rw [this]
      have : b.length * 1923 ≤ L * 1923 := Nat.mul_le_mul_right _ h2
      omega
abbrev huge : Int := 1000000000000000000000000000000
theorem gok_big {n : Nat} {ws : List Int} (hg : GOk n ws) : BigL bigW ws := ⟨fun x hx => (hg.top x hx).1, fun x hx => (hg.top x hx).2⟩
theorem dif_big {n : Nat} {ws : List Int} (hg : GOk n ws) (o : List Nat) (j : Nat) : -(2 * bigW) ≤ difI ws o j ∧ difI ws o j ≤ 2 * bigW := by
  have h1 := getD_big (by decide) (gok_big hg) (numN (o.take (j + 1)))
  have h2 := getD_big (by decide) (gok_big hg) (numN (o.take j))
  unfold difI
  omega
theorem br_big {n : Nat} {ws : List Int} (hg : GOk n ws) (o : List Nat) : BigL (2 * bigW) (bringsI n ws o) := by
  have key : ∀ x ∈ bringsI n ws o, -(2 * bigW) ≤ x ∧ x ≤ 2 * bigW := fun x hx => by
    obtain ⟨i, _, rfl⟩ := List.mem_map.mp hx
    show -(2 * bigW) ≤ (if o.idxOf i < n then difI ws o (o.idxOf i) else 0) ∧ (if o.idxOf i < n then difI ws o (o.idxOf i) else 0) ≤ 2 * bigW
    split
    · exact dif_big hg o _
    · exact ⟨by decide, by decide⟩
  exact ⟨fun x hx => (key x hx).1, fun x hx => (key x hx).2⟩
theorem huge_le : huge ≤ 10 ^ 100 := by decide +kernel
theorem col_big {n : Nat} {ws : List Int} (hg : GOk n ws) (i : Nat) : -(48 * bigW) ≤ colI ((ordN n n).map (bringsI n ws)) i ∧ colI ((ordN n n).map (bringsI n ws)) i ≤ 48 * bigW := by
  obtain ⟨l0, l1⟩ := ord_len n (by have := hg.hi; omega) hg.lo
  have hb : BigL (2 * bigW) (((ordN n n).map (bringsI n ws)).map fun o => o.getD i 0) := by
    have key : ∀ x ∈ (((ordN n n).map (bringsI n ws)).map fun o => o.getD i 0), -(2 * bigW) ≤ x ∧ x ≤ 2 * bigW := fun x hx => by
      obtain ⟨b, hb, rfl⟩ := List.mem_map.mp hx
      obtain ⟨o, _, rfl⟩ := List.mem_map.mp hb
      exact getD_big (by decide) (br_big hg o) i
    exact ⟨fun x hx => (key x hx).1, fun x hx => (key x hx).2⟩
  obtain ⟨h1, h2⟩ := sum_big (by decide) hb
  rw [List.length_map, List.length_map] at h1 h2
  have h3 : ((ordN n n).length : Int) * (2 * bigW) ≤ 24 * (2 * bigW) := Int.mul_le_mul_of_nonneg_right (by omega) (by decide)
  unfold colI
  constructor
  · have : (24 : Int) * (2 * bigW) = 48 * bigW := by decide
    omega
  · have : (24 : Int) * (2 * bigW) = 48 * bigW := by decide
    omega
theorem div_big {a b : Int} {B : Int} (hb : 0 < b) (h0 : -B ≤ a) (h1 : a ≤ B) : -B ≤ a / b ∧ a / b ≤ B := by
  constructor
  · rw [Int.le_ediv_iff_mul_le hb]
    have : -B * b ≤ -B ∨ 0 ≤ a := by
      by_cases h : 0 ≤ a
      · exact .inr h
      · refine .inl ?_
        have hB : 0 ≤ B := by omega
        have := Int.mul_le_mul_of_nonneg_left (show (1 : Int) ≤ b by omega) hB
        rw [Int.neg_mul]
        omega
    rcases this with h | h
    · omega
    · have hB : 0 ≤ B := by omega
      have := Int.mul_nonneg hB (Int.le_of_lt hb)
      rw [Int.neg_mul]
      omega
  · have hB : 0 ≤ B := by omega
    have h2 : a / b ≤ B / b := Int.ediv_le_ediv hb h1
    have h3 : B / b ≤ B := Int.ediv_le_self _ hB
    omega
theorem low_big {a b : Int} (hb : 0 < b) (hb2 : b ≤ 24) (h0 : -(48 * bigW) ≤ a) (h1 : a ≤ 48 * bigW) : BigL huge [(lowF a b).1, (lowF a b).2] := by
  have g0 := gcdI_pos (a := a) hb
  obtain ⟨h2, h3⟩ := div_big g0 h0 h1
  obtain ⟨h4, h5⟩ := div_big (a := b) (B := 24) g0 (by omega) hb2
  have e : 48 * bigW ≤ huge := by decide
  have e2 : (24 : Int) ≤ huge := by decide
  constructor
  · intro x hx
    simp only [List.mem_cons, List.not_mem_nil, or_false] at hx
    rcases hx with rfl | rfl
    · show -huge ≤ a / gcdI a b
      omega
    · show -huge ≤ b / gcdI a b
      omega
  · intro x hx
    simp only [List.mem_cons, List.not_mem_nil, or_false] at hx
    rcases hx with rfl | rfl
    · show a / gcdI a b ≤ huge
      omega
    · show b / gcdI a b ≤ huge
      omega
/-- bounds of dividends: twice as large each time at most -/
theorem dv_big {n : Nat} {ws : List Int} (hg : GOk n ws) : ∀ k, k ≤ 16 → BigL (17 ^ k * bigW) (dvs ws k)
  | 0, _ => ⟨by simp [dvs], by simp [dvs]⟩
  | k + 1, hk => by
    have ih := dv_big hg k (by omega)
    have hw := getD_big (by decide) (gok_big hg) k
    have hp : (1 : Int) ≤ 17 ^ k := Int.pow_pos (show (0 : Int) < 17 by decide)
    have hb0 : (0 : Int) ≤ 17 ^ k * bigW := Int.mul_nonneg (by omega) (by decide)
    have hle : bigW ≤ 17 ^ k * bigW := by
      have := Int.mul_le_mul_of_nonneg_right hp (show (0 : Int) ≤ bigW by decide)
      omega
    have hs : BigL (17 ^ k * bigW) (((List.range k).filter fun o => subN o k).map fun o => (dvs ws k).getD o 0) := ⟨fun x hx => by
      obtain ⟨o, _, rfl⟩ := List.mem_map.mp hx
      exact (getD_big hb0 ih o).1, fun x hx => by
      obtain ⟨o, _, rfl⟩ := List.mem_map.mp hx
      exact (getD_big hb0 ih o).2⟩
    obtain ⟨h1, h2⟩ := sum_big hb0 hs
    have hlen : (((List.range k).filter fun o => subN o k).map fun o => (dvs ws k).getD o 0).length ≤ 16 := by
      have := List.length_filter_le (fun o => subN o k) (List.range k)
      simp only [List.length_map, List.length_range] at this ⊢
      omega
    have hm : ((((List.range k).filter fun o => subN o k).map fun o => (dvs ws k).getD o 0).length : Int) * (17 ^ k * bigW) ≤ 16 * (17 ^ k * bigW) := Int.mul_le_mul_of_nonneg_right (by omega) hb0
    have e : (17 : Int) ^ (k + 1) * bigW = 17 * (17 ^ k * bigW) := by rw [Int.pow_succ, Int.mul_comm (17 ^ k) 17, Int.mul_assoc]
    rw [e]
    have mono : ∀ x ∈ dvs ws k, -(17 * (17 ^ k * bigW)) ≤ x ∧ x ≤ 17 * (17 ^ k * bigW) := fun x hx => by
      have := ih.lo x hx
      have := ih.hi x hx
      omega
    have last : ∀ x ∈ dvs ws (k + 1), -(17 * (17 ^ k * bigW)) ≤ x ∧ x ≤ 17 * (17 ^ k * bigW) := fun x hx => by
      rcases List.mem_append.mp hx with hx | hx
      · exact mono x hx
      · rw [List.mem_singleton.mp hx]
        omega
    exact ⟨fun x hx => (last x hx).1, fun x hx => (last x hx).2⟩
theorem dv_all {n : Nat} {ws : List Int} (hg : GOk n ws) : BigL (17 ^ 16 * bigW) (dvs ws (2 ^ n)) := by
  have hp := (pow_le n (by have := hg.hi; omega)).1
  have h := dv_big hg (2 ^ n) hp
  have hle : (17 : Int) ^ (2 ^ n) * bigW ≤ 17 ^ 16 * bigW := by
    refine Int.mul_le_mul_of_nonneg_right ?_ (by decide)
    have : (17 : Nat) ^ (2 ^ n) ≤ 17 ^ 16 := Nat.pow_le_pow_right (by decide) hp
    exact_mod_cast this
  exact ⟨fun x hx => by have := h.lo x hx; omega, fun x hx => by have := h.hi x hx; omega⟩
end DL

/-! V9 (k27): one case is right. -/
namespace DL
open PySem PySem.Spec PyProof.Rows L2
theorem sIf_no {t : WT} {w u : WS} {e : En} {E : DEnds} (ht : ∀ k : Bool → En → Prop, k false e → t e k) (h : u e E) : sIf t w u e E := by
  simp only [sIf]
  exact ht _ (by rw [if_neg (by simp)]; exact h)
theorem ev_len {e : En} {i : Nat} {xs : List D} (h : e[i]? = some (.val (.lst xs)) ∨ e[i]? = some (.val (.tup xs))) : Ev e (wPr oLen (wCons (wB i) wNil)) (.int (xs.length : Nat)) := fun q hq => by
  rcases h with h | h <;> simp [h] <;> exact hq
abbrev EV (a : Addr) (n : Nat) (ws : List Int) (s8 s10 s11 s12 s14 s15 s16 s17 s18 s19 s20 : Sl) : En := [.val (.tk a), .val (.int (n : Nat)), .val (tuI ws), .val (.lst ((ordN n n).map lotD)), .val (gD n ws), .val (.int ((2 ^ n : Nat) : Int)), .val (.lst ((ordN n n).map fun o => tuI (bringsI n ws o))), .no, s8, .no, s10, s11, s12, .no, s14, s15, s16, s17, s18, s19, s20]
theorem ev_sumLC {e : En} {i : Nat} {wi : WI} {tt : WT} {te : WE} (ns : List Int) (h : ∀ q : D → En → Prop, q (.lst (ns.map D.int)) e → wLC [i] wi (gN i) tt te e q) : Ev e (wPr oSumA (wCons (wOf (wLC [i] wi (gN i) tt te)) wNil)) (.int ns.sum) := fun q hq => by
  simp only [wPr, wCons, wOf, wNil]
  exact h _ ⟨_, rfl, ns, rfl, hq⟩
theorem fr_big {n : Nat} {ws : List Int} (hg : GOk n ws) : okE 60 (.tup ((shapI n ws).map pairD)) = true ∧ okS (.tup ((shapI n ws).map pairD)) = true ∧ rl (.tup ((shapI n ws).map pairD)) ≤ sizeLine := by
  obtain ⟨l0, l1⟩ := ord_len n (by have := hg.hi; omega) hg.lo
  have e : (shapI n ws).map pairD = ((shapI n ws).map fun p => [p.1, p.2]).map tuI := by rw [List.map_map]; rfl
  have rows := rows_ok (B := huge) huge_le ((shapI n ws).map fun p => [p.1, p.2]) 58 2 fun b hb => by
    obtain ⟨p, hp, rfl⟩ := List.mem_map.mp hb
    obtain ⟨i, _, rfl⟩ := List.mem_map.mp hp
    obtain ⟨c1, c2⟩ := col_big hg i
    exact ⟨low_big (by omega) (by omega) c1 c2, by simp⟩
  rw [e]
  refine ⟨by simpa only [okE, Bool.and_eq_true, decide_eq_true_eq] using ⟨by omega, rows.1⟩, by simpa only [okS] using rows.2.1, small_sz ?_⟩
  have := rows.2.2
  have hl : ((shapI n ws).map fun p => [p.1, p.2]).length = n := by simp [shapI]
  rw [hl] at this
  have hn := hg.hi
  have h3 : n * (2 * 1923 + 6) ≤ 4 * (2 * 1923 + 6) := Nat.mul_le_mul_right _ hn
  simp only [rl]
  omega
theorem dv_ok {n : Nat} {ws : List Int} (hg : GOk n ws) : okE 60 (tuI (dvs ws (2 ^ n))) = true ∧ okS (tuI (dvs ws (2 ^ n))) = true ∧ rl (tuI (dvs ws (2 ^ n))) ≤ sizeLine := by
  have p16 := (pow_le n (by have := hg.hi; omega)).1
  refine ⟨okE_tuI 59 _, ?_, ?_⟩
  · have := okS_ints (B := 17 ^ 16 * bigW) (by decide +kernel) (dv_all hg)
    simpa only [tuI, okS] using this
  · rw [rl_tuI, dvs_len]
    exact small_sz (by omega)
theorem sw_ok (b : Bool) {n : Nat} (hn : n ≤ 4) (ws : List Int) : okE 60 (.lst [.bl b, tuI (swsI n ws)]) = true ∧ okS (.lst [.bl b, tuI (swsI n ws)]) = true ∧ rl (.lst [.bl b, tuI (swsI n ws)]) ≤ sizeLine := by
  have p16 := (pow_le n (by omega)).1
  refine ⟨?_, ?_, ?_⟩
  · simp only [okE, okEA, okE_tuI 58, Bool.and_self]
    decide
  · have : okSA ((swsI n ws).map D.int) = true := okS_ints (B := 16) (by decide) ⟨fun x hx => by
      obtain ⟨i, _, rfl⟩ := List.mem_map.mp hx
      omega, fun x hx => by
      obtain ⟨i, _, rfl⟩ := List.mem_map.mp hx
      have := List.length_filter_le (fun k => (k &&& 2 ^ i == 0) && decide (ws.getD k 0 < ws.getD (k ||| 2 ^ i) 0)) (List.range (2 ^ n))
      simp only [List.length_range] at this
      show ((swI n ws i : Nat) : Int) ≤ 16
      unfold swI
      omega⟩
    simp only [okS, okSA, tuI, this, Bool.and_self]
  · simp only [rl, rlA, rl_tuI]
    have : (swsI n ws).length = n := by simp [swsI]
    rw [this]
    exact small_sz (by omega)
theorem v__law_is_right (J : GJ) (ds : List D) (q : D → Prop) (_ : ds.length = 1) (h : S__law_is_right J ds q) : w__law_is_right J (startE N__law_is_right ds) (EndQ q) := by
  obtain ⟨a, rfl, hJ, hq⟩ := h
  refine seq_stepP (fun e => ∃ n : Nat, 1 ≤ n ∧ n ≤ 4 ∧ e = [.val (.tk a), .val (.int (n : Nat)), .no, .no, .no, .no, .no, .no, .no, .no, .no, .no, .no, .no, .no, .no, .no, .no, .no, .no, .no]) (fun E _ _ _ hE => ?_) fun e he => ?_
  · simp only [sSet, wVal, w2, wOf, wC]
    refine w_draw hJ rfl (ev_c _) (by decide) (by decide) fun r r0 r1 => ⟨_, rfl, hE _ ⟨(1 + r).toNat, by omega, by omega, ?_⟩⟩
    have : (((1 + r).toNat : Nat) : Int) = 1 + r := Int.toNat_of_nonneg (by omega)
    rw [this]
    rfl
  obtain ⟨n, h0, hn, rfl⟩ := he
  have p16 := (pow_le n (by omega)).1
  obtain ⟨ol0, ol1⟩ := ord_len n (by omega) h0
  refine seq_stepP (fun e => ∃ ws, GOk n ws ∧ e = [.val (.tk a), .val (.int (n : Nat)), .val (tuI ws), .val (.lst ((ordN n n).map lotD)), .no, .no, .no, .no, .no, .no, .no, .no, .no, .no, .no, .no, .no, .no, .no, .no, .no]) (fun E _ _ _ hE => ?_) fun e he => ?_
  · simp only [sPar, wVal]
    refine wCall_of [.tk a, .int (n : Nat)] (argR_cons (ev_var rfl) (argR_cons (ev_var rfl) argR_nil)) rfl ⟨a, n, rfl, hJ, h0, hn, fun ws hg => ?_⟩
    exact wCall_of [.int (n : Nat)] (argR_cons (ev_var rfl) argR_nil) rfl ⟨n, rfl, h0, hn, hE _ ⟨ws, hg, rfl⟩⟩
  obtain ⟨ws, hg, rfl⟩ := he
  have hl := hg.len
  refine seq_step [.val (.tk a), .val (.int (n : Nat)), .val (tuI ws), .val (.lst ((ordN n n).map lotD)), .val (gD n ws), .val (.int ((2 ^ n : Nat) : Int)), .no, .no, .no, .no, .no, .no, .no, .no, .no, .no, .no, .no, .no, .no, .no] (fun E _ _ _ hE => ?_) ?_
  · simp only [sPar, wVal]
    refine wCall_of [.int (n : Nat), tuI ws] (argR_cons (ev_var rfl) (argR_cons (ev_var rfl) argR_nil)) rfl ⟨n, ws, rfl, hg, ?_⟩
    simp only [w2, wOf, wLst, wCons, wC, wNil, wB]
    exact ⟨_, rfl, by decide, trivial, _, rfl, _, two_at hn, hE⟩
  refine seq_step [.val (.tk a), .val (.int (n : Nat)), .val (tuI ws), .val (.lst ((ordN n n).map lotD)), .val (gD n ws), .val (.int ((2 ^ n : Nat) : Int)), .val (.lst ((ordN n n).map fun o => tuI (bringsI n ws o))), .no, .no, .no, .no, .no, .no, .no, .no, .no, .no, .no, .no, .no, .no] (fun E _ _ _ hE => ?_) ?_
  · simp only [sSet, wVal]
    refine wLC_map lotD (fun o => tuI (bringsI n ws o)) (ordN n n) rfl (fun r hr => wIs_lst rfl hr) (fun o ho k hk => ?_) (by omega) hE
    exact wCall_of [tuI ws, lotD o] (argR_cons (ev_var rfl) (argR_cons (ev_var rfl) argR_nil)) rfl ⟨n, ws, o, rfl, hg, ho, hk⟩
  have rows := rows_ok (B := huge) huge_le ((ordN n n).map (bringsI n ws)) 58 4 fun b hb => by
    obtain ⟨o, _, rfl⟩ := List.mem_map.mp hb
    have h1 := br_big hg o
    have e : 2 * bigW ≤ huge := by decide
    exact ⟨⟨fun x hx => by have := h1.lo x hx; omega, fun x hx => by have := h1.hi x hx; omega⟩, by rw [br_len]; omega⟩
  rw [List.map_map, show (tuI ∘ bringsI n ws) = fun o => tuI (bringsI n ws o) from rfl] at rows
  -- brings
  refine seq_step [.val (.tk a), .val (.int (n : Nat)), .val (tuI ws), .val (.lst ((ordN n n).map lotD)), .val (gD n ws), .val (.int ((2 ^ n : Nat) : Int)), .val (.lst ((ordN n n).map fun o => tuI (bringsI n ws o))), .no, .no, .no, .no, .no, .no, .no, .no, .no, .no, .no, .no, .no, .no] (fun E _ _ _ hE => ?_) ?_
  · refine sIf_no (fun k hk => ne_repr (.lst ((ordN n n).map fun o => tuI (bringsI n ws o))) (arg_of fun c hc => ?_) (arg_b rfl) ?_ ?_ ?_ hk) hE
    · refine wLC_map lotD (fun o => tuI (bringsI n ws o)) (ordN n n) rfl (fun r hr => wIs_lst rfl hr) (fun o ho k hk => ?_) (by omega) hc
      exact wCall_of [gD n ws, lotD o] (argR_cons (ev_var rfl) (argR_cons (ev_var rfl) argR_nil)) rfl ⟨n, ws, o, rfl, hg, ho, hk⟩
    · simpa [okE] using rows.1
    · simpa [okS] using rows.2.1
    · refine small_sz ?_
      have := rows.2.2
      simp only [rl, List.length_map] at this ⊢
      have h3 : (ordN n n).length * (4 * 1923 + 6) ≤ 24 * (4 * 1923 + 6) := Nat.mul_le_mul_right _ ol1
      omega
  -- means of what they bring
  refine seq_step (EV a n ws (.val (.tup ((shapI n ws).map pairD))) .no .no .no .no .no .no .no .no .no .no) (fun E _ _ _ hE => ?_) ?_
  · simp only [sSet, wVal, wPr, wCons, wNil]
    simp only [wOf]
    refine wLC_map (α := Nat) (fun i => D.int (i : Nat)) (fun i => pairD (lowF (colI ((ordN n n).map (bringsI n ws)) i) ((ordN n n).length : Nat))) (List.range n) rfl (fun r hr => wR1_var rfl (by omega) hr) (fun i hi k hk => ?_) (by simp; omega) ?_
    · refine wCall_of [.int (colI ((ordN n n).map (bringsI n ws)) i), .int ((ordN n n).length : Nat)] (argR_cons (ev_sumLC (((ordN n n).map (bringsI n ws)).map fun b => b.getD i 0) fun c hc => ?_) (argR_cons (fun c hc => ev_len (.inl rfl) _ (by simpa using hc)) argR_nil)) rfl ⟨_, _, rfl, by omega, by omega, hk⟩
      refine wLC_map (α := List Nat) (fun o => tuI (bringsI n ws o)) (fun o => .int ((bringsI n ws o).getD i 0)) (ordN n n) rfl (fun r hr => wIs_lst rfl hr) (fun o ho c2 hc2 => ?_) (by omega) (by simpa [Function.comp_def] using hc)
      exact ev_ixB (.inl rfl) rfl (at_ints (by rw [br_len]; exact List.mem_range.mp hi)) _ hc2
    · refine ⟨_, rfl, ?_⟩
      simp only [oTuple]
      have e : ((List.range n).map fun i => pairD (lowF (colI ((ordN n n).map (bringsI n ws)) i) ((ordN n n).length : Nat))) = (shapI n ws).map pairD := by
        rw [shapI, List.map_map]
        rfl
      rw [e]
      exact hE
  obtain ⟨f1, f2, f3⟩ := fr_big hg
  refine seq_step (EV a n ws (.val (.tup ((shapI n ws).map pairD))) .no .no .no .no .no .no .no .no .no .no) (fun E _ _ _ hE => ?_) ?_
  · refine sIf_no (fun k hk => ne_repr (.tup ((shapI n ws).map pairD)) (arg_of fun c hc => ?_) (arg_b rfl) f1 f2 f3 hk) hE
    exact wCall_of [gD n ws] (argR_cons (ev_var rfl) argR_nil) rfl ⟨n, ws, rfl, hg, hc⟩
  refine seq_step (EV a n ws (.val (.tup ((shapI n ws).map pairD))) .no (.own []) .no .no .no .no .no .no .no .no) (fun E _ _ _ hE => ?_) ?_
  · simp only [sSet, wNewL, wNil]
    exact ⟨[], rfl, by simp, hE⟩
  -- dividends
  refine seq_stepP (fun e => ∃ s12, s12.isOwn = false ∧ e = EV a n ws (.val (.tup ((shapI n ws).map pairD))) .no (.own ((dvs ws (2 ^ n)).map D.int)) s12 .no .no .no .no .no .no .no) (fun E _ _ _ hE => ?_) fun e he => ?_
  · refine for_range (2 ^ n) (fun k e => ∃ s12, s12.isOwn = false ∧ e = EV a n ws (.val (.tup ((shapI n ws).map pairD))) .no (.own ((dvs ws k).map D.int)) s12 .no .no .no .no .no .no .no) (by omega) (fun k hk => a1_var rfl k hk) ⟨.no, rfl, rfl⟩ (fun k hk e he R hR => ?_) hE
    obtain ⟨s12, _, rfl⟩ := he
    simp only [gN, sDrop, wApp]
    refine ⟨⟨_, rfl⟩, ?_⟩
    refine ev_sub (ev_ixB (.inl rfl) rfl (at_ints (by rw [hl]; exact hk))) (ev_sumLC (((List.range k).filter fun o => subN o k).map fun o => (dvs ws k).getD o 0) fun c hc => ?_) _ ?_
    · refine wLC_filter (α := Nat) (fun i => D.int (i : Nat)) (fun o => D.int ((dvs ws k).getD o 0)) (fun o => subN o k) (List.range k) rfl (fun r hr => wR1_var rfl (by omega) hr) (fun o ho c2 hc2 => ?_) (fun o ho _ c2 hc2 => ?_) (by simp; omega) (by simpa [Function.comp_def] using hc)
      · simp only [wTB, w2, wOf, wB]
        refine ⟨trivial, trivial, _, rfl, ⟨by omega, by omega⟩, trivial, _, rfl, .inl ⟨rfl, rfl⟩, _, rfl, ?_⟩
        have e1 : eqD (.int (((((o : Nat) : Int).toNat &&& ((k : Nat) : Int).toNat : Nat)) : Int)) (.int (o : Nat)) = subN o k := by
          simp only [eqD, Int.toNat_natCast, subN]
          rw [Bool.eq_iff_iff, beq_iff_eq, beq_iff_eq]
          omega
        rw [e1]
        exact hc2
      · exact ev_ixB (.inr (.inr rfl)) rfl (at_ints (by rw [dvs_len]; exact List.mem_range.mp ho)) _ hc2
    · exact ⟨_, rfl, small_sz (by rw [List.length_map, dvs_len]; omega), hR _ ⟨.val (.int (k : Nat)), rfl, by simp [dvs]⟩⟩
  obtain ⟨s12, hs12, rfl⟩ := he
  obtain ⟨d1, d2, d3⟩ := dv_ok hg
  refine seq_step (EV a n ws (.val (.tup ((shapI n ws).map pairD))) .no (.own ((dvs ws (2 ^ n)).map D.int)) s12 .no .no .no .no .no .no .no) (fun E _ _ _ hE => ?_) ?_
  · refine sIf_no (fun k hk => ne_repr (tuI (dvs ws (2 ^ n))) (arg_of fun c hc => ?_) (arg_of fun c hc => ?_) d1 d2 d3 hk) hE
    · exact wCall_of [gD n ws] (argR_cons (ev_var rfl) argR_nil) rfl ⟨n, ws, rfl, hg, hc⟩
    · simp only [wPr]
      exact arg_own rfl _ fun as has => ⟨_, has, hc⟩
  refine seq_step (EV a n ws (.val (.tup ((shapI n ws).map pairD))) .no (.own ((dvs ws (2 ^ n)).map D.int)) s12 (.val (.bl true)) .no .no .no .no .no .no) (fun E _ _ _ hE => hE) ?_
  -- rising
  let upto : Nat → Bool := fun k => (List.range k).all fun i => (List.range (2 ^ n)).all fun j => rise1 ws i j
  refine seq_stepP (fun e => ∃ s12 s15 s16 s17, s12.isOwn = false ∧ e = EV a n ws (.val (.tup ((shapI n ws).map pairD))) .no (.own ((dvs ws (2 ^ n)).map D.int)) s12 (.val (.bl (riseB n ws))) s15 s16 s17 .no .no .no) (fun E _ _ _ hE => ?_) fun e he => ?_
  · refine for_range (2 ^ n) (fun k e => ∃ s12 s15 s16 s17, s12.isOwn = false ∧ e = EV a n ws (.val (.tup ((shapI n ws).map pairD))) .no (.own ((dvs ws (2 ^ n)).map D.int)) s12 (.val (.bl (upto k))) s15 s16 s17 .no .no .no) (by omega) (fun k hk => a1_var rfl k hk) ⟨s12, .no, .no, .no, hs12, rfl⟩ (fun k hk e he R hR => ?_) hE
    obtain ⟨s12, s15, s16, s17, _, rfl⟩ := he
    simp only [gN]
    refine for_range (2 ^ n) (fun j e => ∃ s15 s16 s17, e = EV a n ws (.val (.tup ((shapI n ws).map pairD))) .no (.own ((dvs ws (2 ^ n)).map D.int)) (.val (.int (k : Nat))) (.val (.bl (upto k && (List.range j).all fun i => rise1 ws k i))) s15 s16 s17 .no .no .no) (by omega) (fun k hk => a1_var rfl k hk) ⟨s15, s16, s17, by simp⟩ (fun j hj e he R2 hR2 => ?_) fun e he => ?_
    · obtain ⟨s15, s16, s17, rfl⟩ := he
      obtain ⟨_, o2⟩ := lot_or n (by omega) k hk j hj
      obtain ⟨_, a2⟩ := lot_and n (by omega) k hk j hj
      simp only [gN]
      refine seq_step (EV a n ws (.val (.tup ((shapI n ws).map pairD))) .no (.own ((dvs ws (2 ^ n)).map D.int)) (.val (.int (k : Nat))) (.val (.bl (upto k && (List.range j).all fun i => rise1 ws k i))) (.val (.int (j : Nat))) (.val (.int (ws.getD k 0 + ws.getD j 0))) s17 .no .no .no) (fun E' _ _ _ hE' => ?_) ?_
      · simp only [sSet, wVal]
        exact ev_add (ev_ixB (.inl rfl) rfl (at_ints (by rw [hl]; exact hk))) (ev_ixB (.inl rfl) rfl (at_ints (by rw [hl]; exact hj))) _ hE'
      refine seq_step (EV a n ws (.val (.tup ((shapI n ws).map pairD))) .no (.own ((dvs ws (2 ^ n)).map D.int)) (.val (.int (k : Nat))) (.val (.bl (upto k && (List.range j).all fun i => rise1 ws k i))) (.val (.int (j : Nat))) (.val (.int (ws.getD k 0 + ws.getD j 0))) (.val (.int (ws.getD (k ||| j) 0))) .no .no .no) (fun E' _ _ _ hE' => ?_) ?_
      · simp only [sSet, wVal]
        refine ev_ix (.inl rfl) (k := ((k ||| j : Nat) : Int)) (fun c hc => ?_) (at_ints (by rw [hl]; exact o2)) _ hE'
        simp only [w2, wB]
        exact ⟨trivial, trivial, _, rfl, ⟨by omega, by omega⟩, by simpa using hc⟩
      · simp only [sSet, wVal, wAnd]
        refine ev_var rfl _ ⟨_, rfl, ?_⟩
        have ead : Ev (EV a n ws (.val (.tup ((shapI n ws).map pairD))) .no (.own ((dvs ws (2 ^ n)).map D.int)) (.val (.int (k : Nat))) (.val (.bl (upto k && (List.range j).all fun i => rise1 ws k i))) (.val (.int (j : Nat))) (.val (.int (ws.getD k 0 + ws.getD j 0))) (.val (.int (ws.getD (k ||| j) 0))) .no .no .no) (w2 oIx (wB 2) (wOf (w2 oBand (wB 12) (wB 15)))) (.int (ws.getD (k &&& j) 0)) :=
          ev_ix (.inl rfl) (k := ((k &&& j : Nat) : Int)) (fun c hc => by
            simp only [w2, wB]
            exact ⟨trivial, trivial, _, rfl, ⟨by omega, by omega⟩, by simpa using hc⟩) (at_ints (by rw [hl]; exact a2))
        have er : (upto k && (List.range (j + 1)).all fun i => rise1 ws k i) = ((upto k && (List.range j).all fun i => rise1 ws k i) && rise1 ws k j) := by
          rw [List.range_succ, List.all_append, Bool.and_assoc]
          simp
        cases hb : (upto k && (List.range j).all fun i => rise1 ws k i) with
        | false =>
          rw [if_neg (by simp)]
          rw [hb, Bool.false_and] at er
          refine hR2 _ ⟨.val (.int (j : Nat)), .val (.int (ws.getD k 0 + ws.getD j 0)), .val (.int (ws.getD (k ||| j) 0)), ?_⟩
          rw [er]
          rfl
        | true =>
          rw [if_pos rfl]
          rw [hb, Bool.true_and] at er
          rw [hb] at ead
          simp only [w2, wOf]
          simp only [wB]
          refine ⟨trivial, trivial, ?_⟩
          refine ead _ ?_
          refine ⟨[.int (ws.getD (k ||| j) 0), .int (ws.getD (k &&& j) 0)], by simp, ?_⟩
          refine ⟨[.int (ws.getD k 0 + ws.getD j 0), .int (ws.getD (k ||| j) 0 + ws.getD (k &&& j) 0)], by simp, ?_⟩
          refine hR2 _ ⟨.val (.int (j : Nat)), .val (.int (ws.getD k 0 + ws.getD j 0)), .val (.int (ws.getD (k ||| j) 0)), ?_⟩
          rw [er]
          rfl
    · obtain ⟨s15, s16, s17, rfl⟩ := he
      refine hR _ ⟨.val (.int (k : Nat)), s15, s16, s17, rfl, ?_⟩
      have : upto (k + 1) = (upto k && (List.range (2 ^ n)).all fun i => rise1 ws k i) := by
        show ((List.range (k + 1)).all fun i => (List.range (2 ^ n)).all fun j => rise1 ws i j) = _
        rw [List.range_succ, List.all_append]
        simp [upto]
      rw [this]
  obtain ⟨s12, s15, s16, s17, hs12, rfl⟩ := he
  refine seq_step (EV a n ws (.val (.tup ((shapI n ws).map pairD))) .no (.own ((dvs ws (2 ^ n)).map D.int)) s12 (.val (.bl (riseB n ws))) s15 s16 s17 (.own []) .no .no) (fun E _ _ _ hE => ?_) ?_
  · simp only [sSet, wNewL, wNil]
    exact ⟨[], rfl, by simp, hE⟩
  -- swings
  refine seq_stepP (fun e => ∃ s10 s12 s19, e = EV a n ws (.val (.tup ((shapI n ws).map pairD))) s10 (.own ((dvs ws (2 ^ n)).map D.int)) s12 (.val (.bl (riseB n ws))) s15 s16 s17 (.own ((swsI n ws).map D.int)) s19 .no) (fun E _ _ _ hE => ?_) fun e he => ?_
  · refine for_range n (fun k e => ∃ s10 s12 s19, s12.isOwn = false ∧ e = EV a n ws (.val (.tup ((shapI n ws).map pairD))) s10 (.own ((dvs ws (2 ^ n)).map D.int)) s12 (.val (.bl (riseB n ws))) s15 s16 s17 (.own (((List.range k).map fun i => ((swI n ws i : Nat) : Int)).map D.int)) s19 .no) (by omega) (fun k hk => a1_var rfl k hk) ⟨.no, s12, .no, hs12, rfl⟩ (fun k hk e he R hR => ?_) fun e ⟨s10, s12, s19, _, h⟩ => hE e ⟨s10, s12, s19, h⟩
    obtain ⟨s10, s12, s19, hs12, rfl⟩ := he
    simp only [gN]
    refine seq_step (EV a n ws (.val (.tup ((shapI n ws).map pairD))) (.val (.int (k : Nat))) (.own ((dvs ws (2 ^ n)).map D.int)) s12 (.val (.bl (riseB n ws))) s15 s16 s17 (.own (((List.range k).map fun i => ((swI n ws i : Nat) : Int)).map D.int)) (.val (.int ((2 ^ k : Nat) : Int))) .no) (fun E' _ _ _ hE' => ?_) ?_
    · simp only [sSet, wVal]
      exact wCall_of [.int (k : Nat)] (argR_cons (ev_var rfl) argR_nil) rfl ⟨k, rfl, by omega, hE'⟩
    · simp only [sDrop, wApp]
      refine ⟨⟨_, rfl⟩, ?_⟩
      simp only [wPr, wCons, wNil]
      simp only [wOf]
      refine wLC_filterV (α := Nat) (fun i => D.int (i : Nat)) (fun i => D.int (i : Nat)) (fun j => (j &&& 2 ^ k == 0) && decide (ws.getD j 0 < ws.getD (j ||| 2 ^ k) 0)) (List.range (2 ^ n)) rfl hs12 (fun r hr => wR1_var rfl (by omega) hr) (fun j hj c hc => ?_) (fun j hj _ c hc => ev_var rfl _ hc) (by simp; omega) ?_
      · have hj := List.mem_range.mp hj
        obtain ⟨_, _, b3⟩ := lot_bit n (by omega) j hj k hk
        simp only [wTAnd, wTB]
        have e1 : eqD (.int (((((j : Nat) : Int).toNat &&& ((2 ^ k : Nat) : Int).toNat : Nat)) : Int)) (.int 0) = (j &&& 2 ^ k == 0) := by
          simp only [eqD, Int.toNat_natCast]
          rw [Bool.eq_iff_iff, beq_iff_eq, beq_iff_eq]
          omega
        simp only [w2, wOf, wC]
        simp only [wB]
        refine ⟨trivial, trivial, _, rfl, ⟨by omega, Int.natCast_nonneg _⟩, _, rfl, .inl ⟨rfl, rfl⟩, _, rfl, ?_⟩
        rw [e1]
        cases hb : (j &&& 2 ^ k == 0) with
        | false =>
          rw [if_neg (by simp)]
          rw [hb, Bool.false_and] at hc
          exact hc
        | true =>
          rw [if_pos rfl]
          rw [hb, Bool.true_and] at hc
          refine ⟨trivial, trivial, trivial, _, rfl, ⟨by omega, Int.natCast_nonneg _⟩, ?_⟩
          refine ⟨_, rfl, _, (by rw [Int.toNat_natCast, Int.toNat_natCast]; exact at_ints (by rw [hl]; exact b3)), trivial, trivial, _, rfl, _, at_ints (by rw [hl]; exact hj), _, rfl, ?_⟩
          exact ⟨_, rfl, hc⟩
      · refine ⟨_, rfl, ?_⟩
        simp only [oLen]
        refine ⟨_, rfl, small_sz (by simp; omega), hR _ ⟨.val (.int (k : Nat)), s12, .val (.int ((2 ^ k : Nat) : Int)), hs12, ?_⟩⟩
        simp [List.range_succ, swI]
  obtain ⟨s10, s12, s19, rfl⟩ := he
  obtain ⟨w1, w2', w3⟩ := sw_ok (riseB n ws) hn ws
  refine seq_step (EV a n ws (.val (.tup ((shapI n ws).map pairD))) s10 (.own ((dvs ws (2 ^ n)).map D.int)) s12 (.val (.bl (riseB n ws))) s15 s16 s17 (.own ((swsI n ws).map D.int)) s19 .no) (fun E _ _ _ hE => ?_) ?_
  · refine sIf_no (fun k hk => ne_repr (.lst [.bl (riseB n ws), tuI (swsI n ws)]) (arg_of fun c hc => ?_) (arg_of fun c hc => ?_) w1 w2' w3 hk) hE
    · simp only [wLst]
      refine argR_cons (d := .bl (riseB n ws)) (fun c2 hc2 => wCall_of [gD n ws] (argR_cons (ev_var rfl) argR_nil) rfl ⟨n, ws, rfl, hg, hc2⟩) (argR_cons (d := tuI (swsI n ws)) (fun c2 hc2 => wCall_of [gD n ws] (argR_cons (ev_var rfl) argR_nil) rfl ⟨n, ws, rfl, hg, hc2⟩) argR_nil) _ fun as has => ⟨_, has, (show 2 ≤ 1000 by decide), hc⟩
    · simp only [wLst]
      refine argR_cons (ev_var rfl) (argR_cons (d := tuI (swsI n ws)) (fun c2 hc2 => ?_) argR_nil) _ fun as has => ⟨_, has, (show 2 ≤ 1000 by decide), hc⟩
      simp only [wPr]
      exact arg_own rfl _ fun as has => ⟨_, has, hc2⟩
  refine seq_step (EV a n ws (.val (.tup ((shapI n ws).map pairD))) s10 (.own ((dvs ws (2 ^ n)).map D.int)) s12 (.val (.bl (riseB n ws))) s15 s16 s17 (.own ((swsI n ws).map D.int)) s19 (.val (gD n ws))) (fun E _ _ _ hE => ?_) ?_
  · simp only [sSet, wVal]
    exact wCall_of [.int (n : Nat), tuI ws] (argR_cons (ev_var rfl) (argR_cons (ev_var rfl) argR_nil)) rfl ⟨n, ws, rfl, hg, hE⟩
  refine seq_step (EV a n ws (.val (.tup ((shapI n ws).map pairD))) s10 (.own ((dvs ws (2 ^ n)).map D.int)) s12 (.val (.bl (riseB n ws))) s15 s16 s17 (.own ((swsI n ws).map D.int)) s19 (.val (gD n ws))) (fun E _ _ _ hE => ?_) ?_
  · refine sIf_no (fun k hk => ?_) hE
    simp [gD, tuI, S_Gain_eq, okEA_ints, eqDA_self_ints]
    exact ⟨n, ws, ⟨rfl, rfl⟩, hg, ⟨⟨n, rfl⟩, ws, rfl⟩, hk⟩
  refine wCall_of [.tk a, gD n ws, .int (n : Nat)] (argR_cons (ev_var rfl) (argR_cons (ev_var rfl) (argR_cons (ev_var rfl) argR_nil))) rfl ⟨a, n, ws, rfl, hJ, hg, ?_⟩
  exact hq
end DL

/-! V10 (k27): the drawn numbers. -/
namespace DL
open PySem PySem.Spec PyProof.Rows L2
theorem v__law_draw (J : GJ) (a : Addr) (ns : List Int) (i d s k m : Int) (ok : HandOk ns i d s k) (h0 : 0 < m) (h1 : m ≤ mostDraw) (E : DEnds)
    (hE' : ∀ (r : Int) (e : En) (ns : List Int) (i d s k : Int), 0 ≤ r → r < m → HandOk ns i d s k → e[0]? = some (.lat a (HandD ns i d s k)) → E.rt (.int r) e) :
    w__law_draw J (hndE a ns i d s k m .no .no .no) E := by
  refine seq_stepP (fun e => ∃ i d s x, HandOk ns i d s k ∧ e = hndE a ns i d s k m x .no .no) (fun E _ _ _ hE => ?_) fun e he => ?_
  · simp [hx0, hx1, hx2]
    have same : E.nx (hndE a ns i d s k m .no .no .no) := hE _ ⟨i, d, s, .no, ok, rfl⟩
    by_cases hd : d = 0
    · refine .inr ⟨hd, ?_⟩
      by_cases hi : i < (ns.length : Int)
      · have i0 := ok.i0
        have hi' : i.toNat < ns.length := by omega
        have hg : atI (ns.map D.int) i = some (.int ns[i.toNat]) := by
          have e := atI_nat (xs := ns.map D.int) (j := i.toNat) (v := .int ns[i.toNat]) (by simp [hi'])
          rwa [Int.toNat_of_nonneg i0] at e
        have hc := ok.cell _ (List.getElem_mem hi')
        have ok' : ∀ d' s', 0 ≤ d' → HandOk ns (i + 1) d' s' k := fun d' s' h => ⟨ok.len, ok.cell, by omega, h⟩
        refine .inr ⟨hi, _, hg, a, _, ⟨rfl, rfl⟩, 1, rfl, .int s, atI_nat (j := 3) rfl, ?_⟩
        refine ⟨.inr ⟨by decide, by decide⟩, .inr ⟨by decide, by decide⟩, by decide, a, _, ⟨rfl, rfl⟩, 3, rfl, ⟨by decide, by decide, by decide⟩, ?_⟩
        by_cases hb : 1000000000000000000 ≤ ns[i.toNat]
        · exact .inr ⟨by simp [hb], a, _, ⟨rfl, rfl⟩, 2, rfl, hE _ ⟨i + 1, ns[i.toNat], _, .val (.int ns[i.toNat]), ok' _ _ hc, rfl⟩⟩
        · exact .inl ⟨by simp [hb], a, _, ⟨rfl, rfl⟩, 2, rfl, hE _ ⟨i + 1, 0, _, .val (.int ns[i.toNat]), ok' _ _ (Int.le_refl 0), rfl⟩⟩
      · exact .inl ⟨by omega, same⟩
    · exact .inl ⟨hd, same⟩
  obtain ⟨i, d, s, x, ok, rfl⟩ := he
  refine seq_stepP (fun e => ∃ y, e = hndE a ns i d s k m x y .no) (fun E2 hrt _ _ hE => ?_) fun e he => ?_
  · simp [hx0, hx1, hx2]
    by_cases hd : d ≤ 0
    · exact .inl ⟨hd, hE _ ⟨.no, rfl⟩⟩
    · have m64 : m < 2 ^ 4096 := Int.lt_of_le_of_lt h1 (by decide +kernel)
      refine .inr ⟨by omega, h0, ⟨h0, by simpa using m64⟩, a, _, ⟨rfl, rfl⟩, 2, rfl, ?_⟩
      rw [hrt]
      exact hE' _ _ ns i (d / m) s k (Int.emod_nonneg _ (by omega)) (Int.emod_lt_of_pos _ h0) ⟨ok.len, ok.cell, ok.i0, Int.ediv_nonneg ok.d0 (by omega)⟩ rfl
  obtain ⟨y, rfl⟩ := he
  simp [hx3, hx4, hs4]
  refine ⟨a, _, ⟨rfl, rfl⟩, 4, rfl, .int s, atI_nat (j := 3) rfl, .int (k + 1), atI_nat (j := 4) rfl, ?_⟩
  have big : ∀ z : Int, CMul (z % 2147483399) (z % 2147483399 / 1013 + 16807) := fun z => .inl (by omega)
  refine ⟨.inl ⟨by decide, by decide⟩, .inr ⟨by decide, by decide⟩, by decide, ⟨by decide, by decide⟩, big _, by decide, ⟨by decide, by decide⟩, h0, ?_⟩
  exact hE' _ _ ns i d s (k + 1) (Int.emod_nonneg _ (by omega)) (Int.emod_lt_of_pos _ h0) ⟨ok.len, ok.cell, ok.i0, ok.d0⟩ rfl
end DL

/-! V11 (k27): the source of numbers. -/
namespace DL
open PySem PySem.Spec PyProof.Rows L2
theorem c__law_draw {g : Bool} {P : Program} {w : World} {K : PySem.W.Frag} {mg : Str → Option Value} {base : Heap} (G : Glo K mg) {f : Addr} {fd : FuncData} (Fu : L2.Fun K "_law_draw" "_law_draw" st__law_draw f fd) (hm : mg "_law_draw" = some (.ref f)) (hb : Binds K fd ["hand", "many"] []) :
    CalG g P w K mg base 1 "_law_draw" S__law_draw 2 := by
  refine ⟨f, fd, ["hand", "many"], fnG_of Fu sc__law_draw (fun vs H Q E h => h.1) fun cd A outer s H vs Q E hr ⟨hl, J, pr, F, ds, q, st8, ia, hS, k⟩ => ?_, hm, Fu.kp, hb⟩
  obtain ⟨a, m, rfl, ⟨T, I, hmt, hTa, hinv, hst, hat⟩, h0, h1, hq⟩ := hS
  obtain ⟨⟨c, ns, i, d, s', n, hc, ha, ok⟩, hI⟩ := (hinv F H).mp st8.inv
  obtain ⟨v0, v1, rfl, iv0, iv1⟩ := ia.two_inv
  cases iv0.tk_inv
  cases iv1.int_inv
  refine ⟨_, (b__law_draw (g := g) G (restJ T I hst hat) hr).run.nox, ?_⟩
  have ma : J.mt a := by rw [hmt]; exact .inl rfl
  have mT : ∀ b, T b → J.mt b := fun b t => by rw [hmt]; exact .inr t
  let pr' : Hp := fun b => open Classical in if F b = none ∧ ¬ J.mt b ∧ ∀ o, H b = some o → NT o then H b else none
  have pr1 : ∀ b o, F b = none → ¬ J.mt b → NT o → H b = some o → pr' b = some o := fun b o h1 h2 h3 h4 => (if_pos ⟨h1, h2, fun o' e => by rw [h4] at e; cases e; exact h3⟩).trans h4
  have pr2 : ∀ b o, pr' b = some o → F b = none ∧ ¬ J.mt b ∧ H b = some o ∧ NT o := fun b o e => by
    have e : (open Classical in if F b = none ∧ ¬ J.mt b ∧ ∀ o, H b = some o → NT o then H b else none) = some o := e
    split at e
    · rename_i h
      exact ⟨h.1, h.2.1, e, h.2.2 o e⟩
    · cases e
  have pr0 : ∀ b, J.mt b → pr' b = none := fun b m => if_neg fun z => z.2.1 m
  have st' : St8 (restJ T I hst hat) pr' F H := ⟨st8.sub, fun b o e => ⟨(pr2 b o e).2.2.1, (pr2 b o e).1⟩, hI, fun b t => ⟨(st8.mtF b (mT b t)).1, pr0 b (mT b t)⟩, fun b o e => e.elim (fun e => st8.nt b o (.inl e)) fun e => (pr2 b o e).2.2.2⟩
  have hand : IsA K mg F [.ref c, .int i, .int d, .int s', .int n] (HandD ns i d s' n) := .cons (.lst hc isA_ints) (.cons (.int _) (.cons (.int _) (.cons (.int _) (.cons (.int _) .nil))))
  have R : Rep K mg (restJ T I hst hat) pr' (hndE a ns i d s' n m .no .no .no) (L2.start N__law_draw [.ref a, .int m]) F H := by
    have R0 := start_rep (N := N__law_draw) (ds := [.tk a, .int m]) (vs := [.ref a, .int m]) st' ia
    refine ⟨st', rfl, fun j t o e1 e2 => ?_, fun j l t t' ne e1 e2 ht ht' => ?_⟩
    · cases j with
      | zero =>
        cases e1
        cases e2
        exact ⟨a, _, rfl, ha, ⟨hand, rfl⟩, (st8.mtF a ma).1, pr0 a ma, hTa⟩
      | succ j => exact R0.sl (j + 1) t o e1 e2
    · have one : ∀ {j : Nat} {t : Sl}, (hndE a ns i d s' n m .no .no .no)[j]? = some t → t.isOwn = true → j = 0 := fun {j t} e h => by
        match j, e with
        | 0, _ => rfl
        | 1, e => cases e; cases h
        | 2, e => cases e; cases h
        | 3, e => cases e; cases h
        | 4, e => cases e; cases h
        | j + 5, e => cases e
      exact absurd ((one e1 ht).trans (one e2 ht').symm) ne
  have out : ∀ {v : V} {r : Int} {e : En} {σ' : L2.St} {F' H' : Hp}, Rep K mg (restJ T I hst hat) pr' e σ' F' H' → Same F F' → Is K mg F' v (.int r) → 0 ≤ r → r < m → (∃ ns i d s k, HandOk ns i d s k ∧ e[0]? = some (.lat a (HandD ns i d s k))) → Q v H' := by
    rintro v r e σ' F' H' R' ff iv r0 r1 ⟨ns', i', d', s2, n', ok', e0⟩
    obtain ⟨vs', _, ha', ia', m'⟩ := lat_at R' e0
    have ha2 : HandAt a F' H' := by
      obtain ⟨u0, r0, rfl, j0, ia'⟩ := ia'.cons_inv
      obtain ⟨u1, r1, rfl, j1, ia'⟩ := ia'.cons_inv
      obtain ⟨u2, r2, rfl, j2, ia'⟩ := ia'.cons_inv
      obtain ⟨u3, r3, rfl, j3, ia'⟩ := ia'.cons_inv
      obtain ⟨u4, rfl, j4⟩ := ia'.one_inv
      obtain ⟨c', xs, rfl, hc', ic⟩ := j0.lst_inv
      rw [j1.int_inv, j2.int_inv, j3.int_inv, j4.int_inv] at ha'
      rw [ic.ints] at hc'
      exact ⟨c', ns', i', d', s2, n', hc', ha', ok'⟩
    have keep : ∀ b o, ¬ J.mt b → NT o → H b = some o → H' b = some o := fun b o mb t e => by
      cases hF : F b with
      | none => exact (R'.st.prk b o (pr1 b o hF mb t e)).1
      | some o' =>
        have e1 := st8.sub b o' hF
        rw [e] at e1
        cases e1
        exact R'.st.sub b o (ff b o hF)
    have mtF' : ∀ b, J.mt b → F' b = none ∧ pr b = none := fun b mb => by
      refine ⟨?_, (st8.mtF b mb).2⟩
      rw [hmt] at mb
      rcases mb with rfl | t
      · exact m'.f
      · exact (R'.st.mtF b t).1
    refine k (.int r) v F' H' ⟨⟨R'.st.sub, fun b o e => ?_, (hinv F' H').mpr ⟨ha2, R'.st.inv⟩, mtF', fun b o e => e.elim (fun e => R'.st.nt b o (.inl e)) fun e => st8.nt b o (.inr e)⟩, ff, keep, fun b o t e fe => ?_⟩ iv (hq r r0 r1)
    · obtain ⟨h1, h2⟩ := st8.prk b o e
      have mb : ¬ J.mt b := fun mb => by
        rw [(st8.mtF b mb).2] at e
        cases e
      exact R'.st.prk b o (pr1 b o h2 mb (st8.nt b o (.inr e)) h1)
    · by_cases mb : J.mt b
      · exact (mtF' b mb).1
      · exact (R'.st.prk b o (pr1 b o fe mb t e)).2
  refine ⟨pr', _, F, { nx := fun _ => False, rt := fun d e => ∃ r : Int, d = .int r ∧ 0 ≤ r ∧ r < m ∧ ∃ ns i d s k, HandOk ns i d s k ∧ e[0]? = some (.lat a (HandD ns i d s k)) }, R,
    v__law_draw _ a ns i d s' n m ok h0 h1 _ fun r e ns i d s k r0 r1 ok e0 => ⟨r, rfl, r0, r1, ns, i, d, s, k, ok, e0⟩,
    ⟨fun _ _ _ _ _ _ h => h.elim, fun d v e σ' F' H' R' ff iv ⟨r, ed, r0, r1, h⟩ => ?_, fun _ _ _ _ _ _ h => h.elim, fun _ _ _ _ _ _ h => h.elim⟩⟩
  subst ed
  exact out R' ff iv r0 r1 h
abbrev st__law_hand : Stmt := topS 25
abbrev N__law_hand : List Str := ["script", "cells", "cell"]
theorem sc__law_hand : FnScope N__law_hand ["script"] (defScope st__law_hand) := ⟨rfl, rfl, rfl, by decide +kernel, rfl, by decide +kernel, by decide +kernel⟩
def spHand (K : PySem.W.Frag) (T : List Addr) : Sp := fun vs H Q _ => ∃ (a : Addr) (ns : List Int), vs = [.ref a] ∧ SqL K H a (ns.map V.int) ∧ ns.length ≤ 63 ∧ (∀ b ∈ T, H b = some (.tbl #[])) ∧
  ∀ (H' : Hp) (b c : Addr) (cells : List Int) (n : Int), (∀ b ∈ T, H' b = some (.tbl #[])) → b ∉ T → b ≠ c → cells.length ≤ 63 → (∀ z ∈ cells, 0 ≤ z) → H' c = some (.lst (cells.map V.int)) → H' b = some (.lst [.ref c, .int 0, .int 0, .int n, .int 0]) → Q (.ref b) H'
abbrev cellOf : Int → Int := cellP 36
section
variable {g : Bool} {P : Program} {w : World} {K : PySem.W.Frag} {mg : Str → Option Value} {base : Heap}
/-- the cells, made of the script -/
def tCells (K : PySem.W.Frag) (T : List Addr) : TS := fun Z σ H => ∃ (a : Addr) (ns : List Int), σ = L2.start N__law_hand [.ref a] ∧ SqL K H a (ns.map V.int) ∧ ns.length ≤ 63 ∧ (∀ b ∈ T, H b = some (.tbl #[])) ∧
  ∀ (p : Addr) (H' : Hp), (∀ b ∈ T, H' b = some (.tbl #[])) → p ∉ T → H' p = some (.lst ((ns.map cellOf).map V.int)) → Z.nx [some (.ref a), some (.ref p), none] H'
theorem ps_cells {T : List Addr} {f : Addr} {cd : Value} {A : Around} {outer : List Env} {s : Shared} {H : Hp} {E : XK} (G : Glo K mg) {st : Stmt} {rest : List Stmt} (hst : defBody st__law_hand = st :: rest) : PS (cxOf L2.CX0 P w K mg base N__law_hand "_law_hand" (defScope st__law_hand) f cd A outer s H E) st (tCells K T) := by
  have nd : N__law_hand.Nodup := sc__law_hand.nd
  obtain ⟨rfl, rfl⟩ := List.cons.inj hst
  refine PS.imp (ps_setLc (i := 1) (g := tG K mg (tabJ T) [2] (gN 2)) (tt := xT K mg (tabJ T) wYes) (te := xE K mg (tabJ T) (w2 oMod (wOf (wPr oInt (wCons (wOf (wPr oAbs (wCons (wOf (wPr oInt (wCons (wB 2) wNil))) wNil))) wNil))) (wOf (w2 oPow (wOf (wC (.int 10))) (wOf (wC (.int 36)))))))
      rfl nd rfl rfl rfl (pi_list (pe_slice sl_list (pv 0) po_none (po_some pe_int))) (blkOk_by (own := [("cell", 2)]) (by kernel_rfl)) (fun _ _ _ _ _ => (dg_name (J := (tabJ T)) 2 (L2.pg_name nd rfl (.inl rfl))).run) (fun _ _ _ _ _ => dts_nil.x)
      (fun _ _ _ _ _ => (de_op (J := (tabJ T)) od_mod (db_of (de_callTy cd_int (by rfl) G.b_int PyProof.Rows.boot_int (da_cons (db_of (de_callB cd_abs (by rfl) G.b_abs PyProof.Rows.boot_abs (da_cons (db_of (de_callTy cd_int (by rfl) G.b_int PyProof.Rows.boot_int (da_cons (db_var 2 (pv 2)) da_nil))) da_nil))) da_nil))) (db_of (de_op od_pow (db_of de_int) (db_of de_int)))).x))
    fun Z σ H ⟨a, ns, hσ, hS, hlen, hT, k⟩ => ?_
  subst hσ
  -- the slice
  refine ⟨.ref a, rfl, 63, rfl, a, ns.map V.int, rfl, hS, fun q nq => ?_⟩
  have cut : cutV (ns.map V.int) none (some 63) = ns.map V.int := by
    unfold cutV
    rw [show (63 : Int) = ((63 : Nat) : Int) by rfl, HT.sIx_nat, HT.sIx_none]
    rw [List.length_map, Nat.min_eq_right hlen]
    simp
    exact List.take_of_length_le (by simp)
  rw [cut]
  refine ⟨q, rfl, ⟨_, .inl (.inl upd_same)⟩, ?_⟩
  have st0 : St8 (tabJ T) (fun _ => none) (fun _ => none) H := ⟨fun _ _ h => (by cases h), fun _ _ h => (by cases h), hT, fun _ _ => ⟨rfl, rfl⟩, fun _ _ h => h.elim (fun h => by cases h) fun h => by cases h⟩
  have st1 := (st0.laid (o := .lst (ns.map V.int)) nq nt_lst).st
  have R1 : Rep K mg (tabJ T) (fun _ => none) [.no, .no, .no] (L2.start N__law_hand [.ref a]) (upd (fun _ => none) q (.lst (ns.map V.int))) (upd H q (.lst (ns.map V.int))) := by
    refine ⟨st1, rfl, fun i s o e1 e2 => ?_, fun i j s t ne e1 e2 hs ht => ?_⟩
    · match i, e1 with
      | 0, e1 => cases e1; trivial
      | 1, e1 => cases e1; trivial
      | 2, e1 => cases e1; trivial
      | i + 3, e1 => cases e1
    · match i, e1 with
      | 0, e1 => cases e1; cases hs
      | 1, e1 => cases e1; cases hs
      | 2, e1 => cases e1; cases hs
      | i + 3, e1 => cases e1
  refine lc_rest (Q := fun x H1 => L2.gName 1 x (L2.start N__law_hand [.ref a]) H1 Z.nx) (fin := fun acc _ => acc = (ns.map cellOf).map D.int) R1 (fun pr' => itOk_list upd_same isA_ints) (by simp; rfl) ?_ ?_
  · refine lc_map1 D.int (fun z => .int (cellOf z)) rfl ns (fun z _ k' hk' => ?_) (small_sz (by omega)) (by simp)
    simp
    exact ⟨⟨by decide, by decide, by decide⟩, by simpa [cellP] using hk'⟩
  · intro acc env' va p F' H' R' ss hp mm al ia hacc
    subst hacc
    have ev := ia.ints
    subst ev
    exact k p H' R'.st.inv mm.m hp
theorem fn_hand {T : List Addr} {f : Addr} {fd : FuncData} (G : Glo K mg) (Fu : L2.Fun K "_law_hand" "_law_hand" st__law_hand f fd) : FnG g P w K mg base L2.CX0 1 f fd ["script"] (spHand K T) := by
  refine fnG_of Fu sc__law_hand (fun vs H Q E ⟨a, ns, h, _⟩ => by rw [h]; rfl) fun cd A outer s H vs Q E hr ⟨a, ns, hv, hS, hlen, hT, k⟩ => ?_
  subst hv
  refine ⟨_, pss_cons (ps_cells (T := T) G rfl)
    (pss_one (ps_ret (pe_lst (pa_cons (pv 1) (pa_cons pe_int (pa_cons pe_int (pa_cons (pe_op op_add pe_int (pe_op op_mul pe_int (pe_callB call_len_seq (by rfl) G.b_len PySem.boot_len (pa_cons (pv 1) pa_nil)))) (pa_cons pe_int pa_nil)))))))), ?_⟩
  refine ⟨a, ns, rfl, hS, hlen, hT, fun p H' h1 h2 h3 => ?_⟩
  refine ⟨.ref p, rfl, .ref p, rfl, p, _, rfl, .inl (.inl (.inl h3)), 13, _, rfl, rfl, .inl ⟨by decide, by decide⟩, 9277, _, rfl, rfl, small_sz (n := 5) (by omega), fun q nq => ?_⟩
  have hp : p ≠ q := ne_of_none h3 nq
  refine k _ q p (ns.map cellOf) _ (fun b hb => ?_) (fun hq => ?_) (Ne.symm hp) (by rw [List.length_map]; exact hlen) (fun z hz => ?_) (by rw [upd_ne hp]; exact h3) upd_same
  · rw [upd_ne (ne_of_none (h1 b hb) nq)]
    exact h1 b hb
  · rw [h1 q hq] at nq
    cases nq
  · obtain ⟨y, _, rfl⟩ := List.mem_map.mp hz
    exact Int.emod_nonneg _ (by decide)
end
end DL

/-! V12 (k27): the law. -/
namespace DL
open PySem PySem.Spec PyProof.Rows L2
def glove : List Int := [0, 0, 0, 0, 0, 1, 1, 1]
theorem glove_ok : GOk 3 glove := ⟨by decide, by decide, rfl, rfl, by decide⟩
theorem glove_sh : shapI 3 glove = [(1, 6), (1, 6), (2, 3)] := by decide +kernel
theorem glove_sw : swsI 3 glove = [1, 1, 3] := by decide +kernel
theorem glove_ri : riseB 3 glove = false := by decide +kernel
theorem v_law (J : GJ) {b : Addr} (hJ : IsHand J b) (E : DEnds) (hE : ∀ e, E.rt (.bl true) e) : w_law J [.no, .val (.tk b), .no, .no] E := by
  refine seq_step [.no, .val (.tk b), .val (gD 3 glove), .no] (fun E' _ _ _ hE' => ?_) ?_
  · simp [S_Gain]
    refine ⟨3, glove, ⟨rfl, rfl⟩, glove_ok, hE'⟩
  refine seq_step [.no, .val (.tk b), .val (gD 3 glove), .no] (fun E' _ _ _ hE' => ?_) ?_
  · refine sIf_no (fun k hk => ?_) hE'
    simp [S_shapley, S_swings, S_is_rising]
    refine ⟨3, glove, rfl, glove_ok, ?_⟩
    rw [glove_sh]
    refine ⟨rfl, .inl ⟨rfl, 3, glove, rfl, glove_ok, ?_⟩⟩
    rw [glove_sw]
    exact ⟨rfl, .inl ⟨rfl, 3, glove, rfl, glove_ok, by rw [glove_ri]; exact .inl ⟨rfl, hk⟩⟩⟩
  simp only [sRet, wPr, wCons, wNil]
  simp only [wOf]
  refine wLC_map (α := Nat) (i := 3) (e := [.no, .val (.tk b), .val (gD 3 glove), .no]) (fun i => D.int (i : Nat)) (fun _ => .bl true) (List.range 6) rfl (fun r hr => wR1_nat (wa := wCons (wOf (wC (.int 6))) wNil) 6 (by decide) (fun k hk => hk) hr) (fun i hi k hk => ?_) (by simp) ?_
  · exact wCall_of [.tk b] (argR_cons (ev_var rfl) argR_nil) rfl ⟨b, rfl, hJ, hk⟩
  · exact ⟨_, rfl, List.replicate 6 true, rfl, hE _⟩
def spLaw (K : PySem.W.Frag) : Sp := fun vs H Q _ => ∃ (a : Addr) (ns : List Int), vs = [.ref a] ∧ SqL K H a (ns.map V.int) ∧ ns.length ≤ 63 ∧ ∀ H', Q (.bl true) H'
theorem fn_law {P : Program} {w : World} {K : PySem.W.Frag} {mg : Str → Option Value} {base : Heap} {fH f : Addr} {fdH fd : FuncData} (G : Glo K mg) (FH : FnG true P w K mg base L2.CX0 1 fH fdH ["script"] (spHand K [])) (mH : mg "_law_hand" = some (.ref fH)) (kH : PySem.W.keepIn K (.ref fH) = true) (bH : Binds K fdH ["script"] [])
    (k_Gain : CalC P w K mg base 3 "Gain" S_Gain 2) (c_shapley : CalG true P w K mg base 3 "shapley" S_shapley 1) (c_swings : CalG true P w K mg base 2 "swings" S_swings 1) (c_is_rising : CalG true P w K mg base 2 "is_rising" S_is_rising 1) (c__law_is_right : CalG true P w K mg base 6 "_law_is_right" S__law_is_right 1)
    (Fu : L2.Fun K "law" "law" st_law f fd) : FnG true P w K mg base L2.CX0 7 f fd ["script"] (spLaw K) := by
  refine fnG_of Fu sc_law (fun vs H Q E ⟨a, ns, h, _⟩ => by rw [h]; rfl) fun cd A outer s H0 vs Q E hr ⟨a, ns, hv, hS, hlen, k⟩ => ?_
  subst hv
  have nd : N_law.Nodup := sc_law.nd
  refine ⟨_, pss_cons (ps_set (i := 1) nd rfl (by first | exact .inl rfl | exact .inr rfl) (pe_callG FH (hr.mono (by decide)) (by rfl) mH kH bH L2.pass0 (pa_cons (pv 0) pa_nil))) (u := fun Z σ H => ∃ b, tS K mg (handJ b) (w_law (handJ b)) Z σ H) ⟨fun pins s' σ H Z I ⟨b, h⟩ => (b_law G k_Gain c_shapley c_swings c_is_rising c__law_is_right (handJ b) (outer := outer) (s := s) (H := H0) (E := E) hr).run.nox.run pins s' σ H Z I h⟩, ?_⟩
  refine ⟨.ref a, rfl, a, ns, rfl, hS, hlen, (fun p hp => by cases hp), fun H' b c cells n h1 h2 h3 h4 h5 h6 h7 => ⟨b, ?_⟩⟩
  have hF : ∀ x o, upd (fun _ => none) c (.lst (cells.map V.int)) x = some o → x = c ∧ o = .lst (cells.map V.int) := fun x o e => by
    by_cases hx : x = c
    · subst hx
      rw [upd_same] at e
      cases e
      exact ⟨rfl, rfl⟩
    · rw [upd_ne hx] at e
      cases e
  have st : St8 (handJ b) (fun _ => none) (upd (fun _ => none) c (.lst (cells.map V.int))) H' := by
    refine ⟨fun x o e => ?_, fun x o e => (by cases e), ⟨⟨c, cells, 0, 0, n, 0, upd_same, h7, ⟨h4, h5, by decide, by decide⟩⟩, trivial⟩, fun x m => ⟨?_, rfl⟩, fun x o e => ?_⟩
    · obtain ⟨rfl, rfl⟩ := hF x o e
      exact h6
    · rcases m with rfl | m
      · rw [upd_ne h3]
      · exact m.elim
    · rcases e with e | e
      · obtain ⟨rfl, rfl⟩ := hF x o e
        exact nt_lst
      · cases e
  have R : Rep K mg (handJ b) (fun _ => none) [.no, .val (.tk b), .no, .no] ((L2.start N_law [.ref a]).set 1 (some (.ref b))) (upd (fun _ => none) c (.lst (cells.map V.int))) H' := by
    refine ⟨st, rfl, fun i s o e1 e2 => ?_, fun i j s t ne e1 e2 hs ht => ?_⟩
    · match i, e1, e2 with
      | 0, e1, _ => cases e1; trivial
      | 1, e1, e2 =>
        cases e1
        cases e2
        exact ⟨_, rfl, .tk b⟩
      | 2, e1, _ => cases e1; trivial
      | 3, e1, _ => cases e1; trivial
      | i + 4, e1, _ => cases e1
    · match i, e1 with
      | 0, e1 => cases e1; cases hs
      | 1, e1 => cases e1; cases hs
      | 2, e1 => cases e1; cases hs
      | 3, e1 => cases e1; cases hs
      | i + 4, e1 => cases e1
  refine ⟨fun _ => none, _, _, { nx := fun _ => False, rt := fun d _ => d = .bl true }, R, v_law (handJ b) (handJ_is b) _ fun e => rfl, ⟨fun _ _ _ _ _ _ h => h.elim, fun d v e σ F' H' R' ff iv hd => ?_, fun _ _ _ _ _ _ h => h.elim, fun _ _ _ _ _ _ h => h.elim⟩⟩
  subst hd
  cases iv.bl_inv
  exact k H'
end DL

/-! V13 (k27): is_order. -/
namespace DL
open PySem PySem.Spec PyProof.Rows L2
/-- all of a tuple's items are numbers below n -/
theorem order_all {J : GJ} {n : Nat} {xs : List D} {s2 : Sl} (h0 : 1 ≤ n) (y : D → Bool) (hl : xs.length ≤ 1000) (hs : s2 = .no) (hy : ∀ d ∈ xs, (∃ i : Int, d = .int i ∧ y d = (decide (0 ≤ i) && decide (i ≤ (n : Int) - 1))) ∨ (∃ b, d = .bl b ∧ y d = false)) :
    Ev [.val (.tup xs), .val (.int (n : Nat)), s2] (wPr oAll (wCons (wOf (wLC [2] (wIs (wVar 0)) (gN 2) wYes (wCall J S_is_within 3 (wCons (wOf (wVar 2)) (wCons (wOf (wC (.int 0))) (wCons (wOf (w2 oSub (wB 1) (wOf (wC (.int 1))))) wNil)))))) wNil)) (.bl (xs.all y)) := fun q hq => by
  subst hs
  simp only [wPr, wCons, wNil]
  simp only [wOf]
  refine wLC_map (α := D) id (fun d => .bl (y d)) xs rfl (fun r hr => wIs_tup rfl (by simpa using hr)) (fun d hd k hk => ?_) (by omega) ?_
  · refine wCall_of [d, .int 0, .int ((n : Int) - 1)] (argR_cons (ev_var rfl) (argR_cons (ev_c _) (argR_cons (fun c hc => ?_) argR_nil))) rfl ?_
    · simp
      exact hc
    · rcases hy d hd with ⟨i, rfl, e⟩ | ⟨b, rfl, e⟩
      · refine .inl ⟨i, 0, _, rfl, ?_⟩
        rw [← e]
        exact hk
      · refine .inr ⟨b, 0, _, rfl, ?_⟩
        rw [← e]
        exact hk
  · refine ⟨_, rfl, xs.map y, by simp, ?_⟩
    rw [List.all_map]
    exact hq
theorem v_is_order (J : GJ) (ds : List D) (q : D → Prop) (_ : ds.length = 2) (h : S_is_order J ds q) : w_is_order J (startE N_is_order ds) (EndQ q) := by
  obtain ⟨d, n, rfl, h0, hn, h⟩ := h
  -- the first test
  have tst : ∀ {xs : List D} {w u : WS} {E : DEnds} (y : D → Bool), (xs.length = n → ∀ d ∈ xs, (∃ i : Int, d = .int i ∧ y d = (decide (0 ≤ i) && decide (i ≤ (n : Int) - 1))) ∨ (∃ b, d = .bl b ∧ y d = false)) →
      ((xs.length = n ∧ xs.all y = true) → u [.val (.tup xs), .val (.int (n : Nat)), .no] E) → (¬ (xs.length = n ∧ xs.all y = true) → w [.val (.tup xs), .val (.int (n : Nat)), .no] E) →
      sIf (wTOr (wTNot (wTB (wCall J S_is_tuple 2 (wCons (wOf (wVar 0)) (wCons (wOf (wVar 1)) wNil))))) (wTNot (wTB (wPr oAll (wCons (wOf (wLC [2] (wIs (wVar 0)) (gN 2) wYes (wCall J S_is_within 3 (wCons (wOf (wVar 2)) (wCons (wOf (wC (.int 0))) (wCons (wOf (w2 oSub (wB 1) (wOf (wC (.int 1))))) wNil)))))) wNil))))) w u [.val (.tup xs), .val (.int (n : Nat)), .no] E := fun {xs w u E} y hy hu hw => by
    simp only [sIf, wTOr, wTNot, wTB]
    refine wCall_of [.tup xs, .int (n : Nat)] (argR_cons (ev_var rfl) (argR_cons (ev_var rfl) argR_nil)) rfl ⟨_, _, rfl, .inl ⟨xs, rfl, _, rfl, ?_⟩⟩
    by_cases hl : xs.length = n
    · have e1 : decide (((xs.length : Nat) : Int) = (n : Nat)) = true := decide_eq_true (by omega)
      rw [e1]
      refine order_all h0 y (by omega) rfl (hy hl) _ ⟨_, rfl, ?_⟩
      cases ha : xs.all y with
      | true =>
        exact hu ⟨hl, ha⟩
      | false =>
        exact hw fun z => by rw [ha] at z; cases z.2
    · have e1 : decide (((xs.length : Nat) : Int) = (n : Nat)) = false := decide_eq_false (by omega)
      rw [e1]
      exact hw fun z => hl z.1
  have no : ∀ {d : D} {w u : WS} {E : DEnds}, (d = .non ∨ (∃ xs, d = .lst xs) ∨ ∃ s, d = .str s) → w [.val d, .val (.int (n : Nat)), .no] E →
      sIf (wTOr (wTNot (wTB (wCall J S_is_tuple 2 (wCons (wOf (wVar 0)) (wCons (wOf (wVar 1)) wNil))))) (wTNot (wTB (wPr oAll (wCons (wOf (wLC [2] (wIs (wVar 0)) (gN 2) wYes (wCall J S_is_within 3 (wCons (wOf (wVar 2)) (wCons (wOf (wC (.int 0))) (wCons (wOf (w2 oSub (wB 1) (wOf (wC (.int 1))))) wNil)))))) wNil))))) w u [.val d, .val (.int (n : Nat)), .no] E := fun {d w u E} hd hw => by
    simp only [sIf, wTOr, wTNot, wTB]
    exact wCall_of [d, .int (n : Nat)] (argR_cons (ev_var rfl) (argR_cons (ev_var rfl) argR_nil)) rfl ⟨_, _, rfl, .inr ⟨hd, _, rfl, hw⟩⟩
  rcases h with ⟨o, rfl, ho, hq⟩ | ⟨hd, hq⟩
  · have ok := ordOk hn ho
    simp only [w_is_order, sSeq]
    refine tst (xs := natD o) (fun _ => true) (fun _ d hd => ?_) (fun _ => ?_) fun z => absurd ⟨by rw [natD_length, ok.len], by simp⟩ z
    · obtain ⟨i, hi, rfl⟩ := List.mem_map.mp hd
      have := ok.lt i hi
      exact .inl ⟨_, rfl, by simp <;> omega⟩
    · simp only [sNil, sRet, w2, wOf, wLenSet, wVar]
      refine ⟨o.map (fun i => ((i : Nat) : Int)), by simp [natD], by simp [ok.len]; omega, fun out hnd hm => ?_⟩
      have hp : out.length = n := by
        have h1 : (o.map fun i => ((i : Nat) : Int)).Nodup := List.pairwise_map.mpr (ok.nd.imp fun h e => h (Int.ofNat.inj e))
        have h2 : out.Perm (o.map fun i => ((i : Nat) : Int)) := (List.perm_ext_iff_of_nodup hnd h1).mpr hm
        rw [h2.length_eq, List.length_map, ok.len]
      simp [hp]
      exact hq
  · have fin : ∀ e : En, (EndQ q).rt (.bl false) e := fun e => hq
    simp only [w_is_order, sSeq]
    simp only [S_is_order.badD, List.mem_cons, List.not_mem_nil, or_false] at hd
    rcases hd with rfl | rfl | rfl | rfl | rfl | rfl | rfl | rfl
    · exact no (.inl rfl) hq
    · exact no (.inr (.inl ⟨_, rfl⟩)) hq
    · exact tst (xs := natD (List.range (n + 1))) (fun _ => true) (fun h => by simp [natD_length] at h) (fun h => by have := h.1; simp [natD_length] at this) fun _ => hq
    · exact tst (xs := List.replicate (n + 1) (.int 0)) (fun _ => true) (fun h => by simp at h) (fun h => by have := h.1; simp at this) fun _ => hq
    · refine tst (xs := [.int n]) (fun _ => false) (fun _ d hd => ?_) (fun h => by have := h.2; simp at this) fun _ => hq
      rw [List.mem_singleton.mp hd]
      exact .inl ⟨_, rfl, by simp <;> omega⟩
    · exact no (.inr (.inr ⟨_, rfl⟩)) hq
    · refine tst (xs := List.replicate n (.bl true)) (fun _ => false) (fun _ d hd => ?_) (fun h => ?_) fun _ => hq
      · rw [List.eq_of_mem_replicate hd]
        exact .inr ⟨_, rfl, rfl⟩
      · have := h.2
        simp at this
        omega
    · refine tst (xs := List.replicate n (.int (-1))) (fun _ => false) (fun _ d hd => ?_) (fun h => ?_) fun _ => hq
      · rw [List.eq_of_mem_replicate hd]
        exact .inl ⟨_, rfl, by simp <;> omega⟩
      · have := h.2
        simp at this
        omega
end DL

/-! the end: all joined. -/
namespace DL
open PySem PySem.Spec PyProof.Rows L2

abbrev st_pe : Stmt := inCls 8 0
theorem sc_pe : FnScope ["self"] ["self"] (defScope st_pe) := ⟨rfl, rfl, rfl, by decide +kernel, rfl, by decide +kernel, by decide +kernel⟩
theorem fn_pe0 {P : Program} {w : World} {K : PySem.W.Frag} {mg : Str → Option Value} {base : Heap} {f : Addr} {fd : FuncData} (Fu : L2.Fun K "__init__" "PlayError.__init__" st_pe f fd) (mV : mg "ValueError" = none) (vV : PySem.W.findCls K (.type "ValueError") (.type "type") "__init__" = some (.val (.builtin "ValueError.__init__"))) :
    FnG false P w K mg base L2.CX0 1 f fd ["self"] (spPE0 K) := by
  refine fnG_of Fu sc_pe (fun vs H Q E ⟨a, C, h, _⟩ => by rw [h]; rfl) fun cd A outer s H vs Q E hr ⟨a, C, hv, T, ha, q⟩ => ?_
  subst hv
  refine ⟨_, pss_one (ps_expr (pe_veinit rfl mV vV (pa_cons (pv 0) pa_nil))), ?_⟩
  exact ⟨.ref a, rfl, a, C, [], rfl, by simp, T, ha, q⟩
theorem exm_pair {K : PySem.W.Frag} {C E : Addr} {b : Bool} (h1 : PySem.W.subIn K (.ref E) (.type "BaseException") = some true) (h2 : PySem.W.isClsIn K E = true) (h3 : PySem.W.typeIn K (.ref E) = some (.type "type")) (h4 : PySem.W.subIn K (.ref C) (.ref E) = some b) : PySem.W.exmOne K (.ref C) (.ref E) = some b := by
  have h5 : (PySem.W.clsIn K E).isSome = true := h2
  simp [PySem.W.exmOne, PySem.W.kitCls, h1, h3, h4, h5]
theorem mt_of {K : PySem.W.Frag} {mg : Str → Option Value} {t : List ((Str × Str) × Bool)} (h : ∀ p ∈ t, ∀ C E, mg p.1.1 = some (.ref C) → mg p.1.2 = some (.ref E) → PySem.W.exmOne K (.ref C) (.ref E) = some p.2) : MtOk K mg fun c x => t.lookup (c, x) := fun c x C E b hb hC hE => by
  have key : ∀ l : List ((Str × Str) × Bool), l.lookup (c, x) = some b → ((c, x), b) ∈ l := by
    intro l
    induction l with
    | nil => intro h; simp at h
    | cons p l ih =>
      intro h
      rw [List.lookup_cons] at h
      cases hp : ((c, x) == p.1) with
      | true =>
        rw [hp] at h
        have e : (c, x) = p.1 := by simpa using hp
        cases h
        rw [e]
        exact List.mem_cons_self
      | false =>
        rw [hp] at h
        exact List.mem_cons_of_mem _ (ih h)
  exact h _ (key t hb) C E hC hE

theorem all_mk {P : Program} {w : World} {K : PySem.W.Frag} {h : Heap} {mg : Str → Option Value} {fa : Addr} (X : K.In h) (G : h.Ns mainGlobals mg) (hfa : mg "law" = some (.ref fa))
    {f_is_integer f_is_within f_is_tuple f_is_order f_orders_of f_lots_of f_divisor_of f_lowest f_Gain f_Gain_eq f_number_of_lot f_raw_brings f_brings f_shapley f_dividends f_is_rising f_swings f_law_draw f_law_some f_law_common f_law_fraction f_law_orders f_law_bit f_law_worths f_law_brought f_law_is_refused f_law_is_right f_law f_law_hand f_pe C_Gain C_NoOrder C_PlayError : Addr}
    {od_is_integer an_is_integer od_is_within an_is_within od_is_tuple an_is_tuple od_is_order an_is_order od_orders_of an_orders_of od_lots_of an_lots_of od_divisor_of an_divisor_of od_lowest an_lowest od_Gain an_Gain od_Gain_eq an_Gain_eq od_number_of_lot an_number_of_lot od_raw_brings an_raw_brings od_brings an_brings od_shapley an_shapley od_dividends an_dividends od_is_rising an_is_rising od_swings an_swings od_law_draw an_law_draw od_law_some an_law_some od_law_common an_law_common od_law_fraction an_law_fraction od_law_orders an_law_orders od_law_bit an_law_bit od_law_worths an_law_worths od_law_brought an_law_brought od_law_is_refused an_law_is_refused od_law_is_right an_law_is_right od_law an_law od_law_hand an_law_hand od_pe an_pe : Option Addr}
    {sl_is_integer sl_is_within sl_is_tuple sl_is_order sl_orders_of sl_lots_of sl_divisor_of sl_lowest sl_Gain sl_Gain_eq sl_number_of_lot sl_raw_brings sl_brings sl_shapley sl_dividends sl_is_rising sl_swings sl_law_draw sl_law_some sl_law_common sl_law_fraction sl_law_orders sl_law_bit sl_law_worths sl_law_brought sl_law_is_refused sl_law_is_right sl_law sl_law_hand sl_pe : Array (Option Value)}
    {oc_is_integer kV_is_integer dc_is_integer pm_is_integer ct_is_integer cd_is_integer oc_is_within kV_is_within dc_is_within pm_is_within ct_is_within cd_is_within oc_is_tuple kV_is_tuple dc_is_tuple pm_is_tuple ct_is_tuple cd_is_tuple oc_is_order kV_is_order dc_is_order pm_is_order ct_is_order cd_is_order oc_orders_of kV_orders_of dc_orders_of pm_orders_of ct_orders_of cd_orders_of oc_lots_of kV_lots_of dc_lots_of pm_lots_of ct_lots_of cd_lots_of oc_divisor_of kV_divisor_of dc_divisor_of pm_divisor_of ct_divisor_of cd_divisor_of oc_lowest kV_lowest dc_lowest pm_lowest ct_lowest cd_lowest oc_Gain kV_Gain dc_Gain pm_Gain ct_Gain cd_Gain oc_Gain_eq kV_Gain_eq dc_Gain_eq pm_Gain_eq ct_Gain_eq cd_Gain_eq oc_number_of_lot kV_number_of_lot dc_number_of_lot pm_number_of_lot ct_number_of_lot cd_number_of_lot oc_raw_brings kV_raw_brings dc_raw_brings pm_raw_brings ct_raw_brings cd_raw_brings oc_brings kV_brings dc_brings pm_brings ct_brings cd_brings oc_shapley kV_shapley dc_shapley pm_shapley ct_shapley cd_shapley oc_dividends kV_dividends dc_dividends pm_dividends ct_dividends cd_dividends oc_is_rising kV_is_rising dc_is_rising pm_is_rising ct_is_rising cd_is_rising oc_swings kV_swings dc_swings pm_swings ct_swings cd_swings oc_law_draw kV_law_draw dc_law_draw pm_law_draw ct_law_draw cd_law_draw oc_law_some kV_law_some dc_law_some pm_law_some ct_law_some cd_law_some oc_law_common kV_law_common dc_law_common pm_law_common ct_law_common cd_law_common oc_law_fraction kV_law_fraction dc_law_fraction pm_law_fraction ct_law_fraction cd_law_fraction oc_law_orders kV_law_orders dc_law_orders pm_law_orders ct_law_orders cd_law_orders oc_law_bit kV_law_bit dc_law_bit pm_law_bit ct_law_bit cd_law_bit oc_law_worths kV_law_worths dc_law_worths pm_law_worths ct_law_worths cd_law_worths oc_law_brought kV_law_brought dc_law_brought pm_law_brought ct_law_brought cd_law_brought oc_law_is_refused kV_law_is_refused dc_law_is_refused pm_law_is_refused ct_law_is_refused cd_law_is_refused oc_law_is_right kV_law_is_right dc_law_is_right pm_law_is_right ct_law_is_right cd_law_is_right oc_law kV_law dc_law pm_law ct_law cd_law oc_law_hand kV_law_hand dc_law_hand pm_law_hand ct_law_hand cd_law_hand oc_pe kV_pe dc_pe pm_pe ct_pe cd_pe : Value}
    {t_MOST_PLAYERS : Tok}
    {nm_NoOrder qq_NoOrder : Str} {NN_NoOrder : Addr} {bs_NoOrder bm_NoOrder : List Value} {sn_NoOrder : List Str} {sub_NoOrder : List Value} {ab_NoOrder : Bool} {col_NoOrder : Option Bool} {dd_NoOrder : Option Addr} {m0_NoOrder m1_NoOrder m2_NoOrder m3_NoOrder m5_NoOrder : Option Value}
    (a_is_integer : PySem.W.nsIn K mainGlobals "is_integer" = some (some (.ref f_is_integer)))
    (l_is_integer : K.lookup f_is_integer = some ⟨oc_is_integer, od_is_integer, .func (PySem.W.fnOf "is_integer" "is_integer" (defArgs st_is_integer) (defBody st_is_integer) (defScope st_is_integer) .none kV_is_integer dc_is_integer pm_is_integer an_is_integer cd_is_integer ct_is_integer), sl_is_integer⟩)
    (c_is_integer : PySem.W.codeIn K cd_is_integer "is_integer" = true)
    (k_is_integer : PySem.W.keepIn K (.ref f_is_integer) = true)
    (a_is_within : PySem.W.nsIn K mainGlobals "is_within" = some (some (.ref f_is_within)))
    (l_is_within : K.lookup f_is_within = some ⟨oc_is_within, od_is_within, .func (PySem.W.fnOf "is_within" "is_within" (defArgs st_is_within) (defBody st_is_within) (defScope st_is_within) .none kV_is_within dc_is_within pm_is_within an_is_within cd_is_within ct_is_within), sl_is_within⟩)
    (c_is_within : PySem.W.codeIn K cd_is_within "is_within" = true)
    (k_is_within : PySem.W.keepIn K (.ref f_is_within) = true)
    (a_is_tuple : PySem.W.nsIn K mainGlobals "is_tuple" = some (some (.ref f_is_tuple)))
    (l_is_tuple : K.lookup f_is_tuple = some ⟨oc_is_tuple, od_is_tuple, .func (PySem.W.fnOf "is_tuple" "is_tuple" (defArgs st_is_tuple) (defBody st_is_tuple) (defScope st_is_tuple) .none kV_is_tuple dc_is_tuple pm_is_tuple an_is_tuple cd_is_tuple ct_is_tuple), sl_is_tuple⟩)
    (c_is_tuple : PySem.W.codeIn K cd_is_tuple "is_tuple" = true)
    (k_is_tuple : PySem.W.keepIn K (.ref f_is_tuple) = true)
    (a_is_order : PySem.W.nsIn K mainGlobals "is_order" = some (some (.ref f_is_order)))
    (l_is_order : K.lookup f_is_order = some ⟨oc_is_order, od_is_order, .func (PySem.W.fnOf "is_order" "is_order" (defArgs st_is_order) (defBody st_is_order) (defScope st_is_order) .none kV_is_order dc_is_order pm_is_order an_is_order cd_is_order ct_is_order), sl_is_order⟩)
    (c_is_order : PySem.W.codeIn K cd_is_order "is_order" = true)
    (k_is_order : PySem.W.keepIn K (.ref f_is_order) = true)
    (a_orders_of : PySem.W.nsIn K mainGlobals "orders_of" = some (some (.ref f_orders_of)))
    (l_orders_of : K.lookup f_orders_of = some ⟨oc_orders_of, od_orders_of, .func (PySem.W.fnOf "orders_of" "orders_of" (defArgs st_orders_of) (defBody st_orders_of) (defScope st_orders_of) .none kV_orders_of dc_orders_of pm_orders_of an_orders_of cd_orders_of ct_orders_of), sl_orders_of⟩)
    (c_orders_of : PySem.W.codeIn K cd_orders_of "orders_of" = true)
    (k_orders_of : PySem.W.keepIn K (.ref f_orders_of) = true)
    (a_lots_of : PySem.W.nsIn K mainGlobals "lots_of" = some (some (.ref f_lots_of)))
    (l_lots_of : K.lookup f_lots_of = some ⟨oc_lots_of, od_lots_of, .func (PySem.W.fnOf "lots_of" "lots_of" (defArgs st_lots_of) (defBody st_lots_of) (defScope st_lots_of) .none kV_lots_of dc_lots_of pm_lots_of an_lots_of cd_lots_of ct_lots_of), sl_lots_of⟩)
    (c_lots_of : PySem.W.codeIn K cd_lots_of "lots_of" = true)
    (k_lots_of : PySem.W.keepIn K (.ref f_lots_of) = true)
    (a_divisor_of : PySem.W.nsIn K mainGlobals "divisor_of" = some (some (.ref f_divisor_of)))
    (l_divisor_of : K.lookup f_divisor_of = some ⟨oc_divisor_of, od_divisor_of, .func (PySem.W.fnOf "divisor_of" "divisor_of" (defArgs st_divisor_of) (defBody st_divisor_of) (defScope st_divisor_of) .none kV_divisor_of dc_divisor_of pm_divisor_of an_divisor_of cd_divisor_of ct_divisor_of), sl_divisor_of⟩)
    (c_divisor_of : PySem.W.codeIn K cd_divisor_of "divisor_of" = true)
    (k_divisor_of : PySem.W.keepIn K (.ref f_divisor_of) = true)
    (a_lowest : PySem.W.nsIn K mainGlobals "lowest" = some (some (.ref f_lowest)))
    (l_lowest : K.lookup f_lowest = some ⟨oc_lowest, od_lowest, .func (PySem.W.fnOf "lowest" "lowest" (defArgs st_lowest) (defBody st_lowest) (defScope st_lowest) .none kV_lowest dc_lowest pm_lowest an_lowest cd_lowest ct_lowest), sl_lowest⟩)
    (c_lowest : PySem.W.codeIn K cd_lowest "lowest" = true)
    (k_lowest : PySem.W.keepIn K (.ref f_lowest) = true)
    (a_number_of_lot : PySem.W.nsIn K mainGlobals "number_of_lot" = some (some (.ref f_number_of_lot)))
    (l_number_of_lot : K.lookup f_number_of_lot = some ⟨oc_number_of_lot, od_number_of_lot, .func (PySem.W.fnOf "number_of_lot" "number_of_lot" (defArgs st_number_of_lot) (defBody st_number_of_lot) (defScope st_number_of_lot) .none kV_number_of_lot dc_number_of_lot pm_number_of_lot an_number_of_lot cd_number_of_lot ct_number_of_lot), sl_number_of_lot⟩)
    (c_number_of_lot : PySem.W.codeIn K cd_number_of_lot "number_of_lot" = true)
    (k_number_of_lot : PySem.W.keepIn K (.ref f_number_of_lot) = true)
    (a_raw_brings : PySem.W.nsIn K mainGlobals "raw_brings" = some (some (.ref f_raw_brings)))
    (l_raw_brings : K.lookup f_raw_brings = some ⟨oc_raw_brings, od_raw_brings, .func (PySem.W.fnOf "raw_brings" "raw_brings" (defArgs st_raw_brings) (defBody st_raw_brings) (defScope st_raw_brings) .none kV_raw_brings dc_raw_brings pm_raw_brings an_raw_brings cd_raw_brings ct_raw_brings), sl_raw_brings⟩)
    (c_raw_brings : PySem.W.codeIn K cd_raw_brings "raw_brings" = true)
    (k_raw_brings : PySem.W.keepIn K (.ref f_raw_brings) = true)
    (a_brings : PySem.W.nsIn K mainGlobals "brings" = some (some (.ref f_brings)))
    (l_brings : K.lookup f_brings = some ⟨oc_brings, od_brings, .func (PySem.W.fnOf "brings" "brings" (defArgs st_brings) (defBody st_brings) (defScope st_brings) .none kV_brings dc_brings pm_brings an_brings cd_brings ct_brings), sl_brings⟩)
    (c_brings : PySem.W.codeIn K cd_brings "brings" = true)
    (k_brings : PySem.W.keepIn K (.ref f_brings) = true)
    (a_shapley : PySem.W.nsIn K mainGlobals "shapley" = some (some (.ref f_shapley)))
    (l_shapley : K.lookup f_shapley = some ⟨oc_shapley, od_shapley, .func (PySem.W.fnOf "shapley" "shapley" (defArgs st_shapley) (defBody st_shapley) (defScope st_shapley) .none kV_shapley dc_shapley pm_shapley an_shapley cd_shapley ct_shapley), sl_shapley⟩)
    (c_shapley : PySem.W.codeIn K cd_shapley "shapley" = true)
    (k_shapley : PySem.W.keepIn K (.ref f_shapley) = true)
    (a_dividends : PySem.W.nsIn K mainGlobals "dividends" = some (some (.ref f_dividends)))
    (l_dividends : K.lookup f_dividends = some ⟨oc_dividends, od_dividends, .func (PySem.W.fnOf "dividends" "dividends" (defArgs st_dividends) (defBody st_dividends) (defScope st_dividends) .none kV_dividends dc_dividends pm_dividends an_dividends cd_dividends ct_dividends), sl_dividends⟩)
    (c_dividends : PySem.W.codeIn K cd_dividends "dividends" = true)
    (k_dividends : PySem.W.keepIn K (.ref f_dividends) = true)
    (a_is_rising : PySem.W.nsIn K mainGlobals "is_rising" = some (some (.ref f_is_rising)))
    (l_is_rising : K.lookup f_is_rising = some ⟨oc_is_rising, od_is_rising, .func (PySem.W.fnOf "is_rising" "is_rising" (defArgs st_is_rising) (defBody st_is_rising) (defScope st_is_rising) .none kV_is_rising dc_is_rising pm_is_rising an_is_rising cd_is_rising ct_is_rising), sl_is_rising⟩)
    (c_is_rising : PySem.W.codeIn K cd_is_rising "is_rising" = true)
    (k_is_rising : PySem.W.keepIn K (.ref f_is_rising) = true)
    (a_swings : PySem.W.nsIn K mainGlobals "swings" = some (some (.ref f_swings)))
    (l_swings : K.lookup f_swings = some ⟨oc_swings, od_swings, .func (PySem.W.fnOf "swings" "swings" (defArgs st_swings) (defBody st_swings) (defScope st_swings) .none kV_swings dc_swings pm_swings an_swings cd_swings ct_swings), sl_swings⟩)
    (c_swings : PySem.W.codeIn K cd_swings "swings" = true)
    (k_swings : PySem.W.keepIn K (.ref f_swings) = true)
    (a_law_draw : PySem.W.nsIn K mainGlobals "_law_draw" = some (some (.ref f_law_draw)))
    (l_law_draw : K.lookup f_law_draw = some ⟨oc_law_draw, od_law_draw, .func (PySem.W.fnOf "_law_draw" "_law_draw" (defArgs st__law_draw) (defBody st__law_draw) (defScope st__law_draw) .none kV_law_draw dc_law_draw pm_law_draw an_law_draw cd_law_draw ct_law_draw), sl_law_draw⟩)
    (c_law_draw : PySem.W.codeIn K cd_law_draw "_law_draw" = true)
    (k_law_draw : PySem.W.keepIn K (.ref f_law_draw) = true)
    (a_law_some : PySem.W.nsIn K mainGlobals "_law_some" = some (some (.ref f_law_some)))
    (l_law_some : K.lookup f_law_some = some ⟨oc_law_some, od_law_some, .func (PySem.W.fnOf "_law_some" "_law_some" (defArgs st__law_some) (defBody st__law_some) (defScope st__law_some) .none kV_law_some dc_law_some pm_law_some an_law_some cd_law_some ct_law_some), sl_law_some⟩)
    (c_law_some : PySem.W.codeIn K cd_law_some "_law_some" = true)
    (k_law_some : PySem.W.keepIn K (.ref f_law_some) = true)
    (a_law_common : PySem.W.nsIn K mainGlobals "_law_common" = some (some (.ref f_law_common)))
    (l_law_common : K.lookup f_law_common = some ⟨oc_law_common, od_law_common, .func (PySem.W.fnOf "_law_common" "_law_common" (defArgs st__law_common) (defBody st__law_common) (defScope st__law_common) .none kV_law_common dc_law_common pm_law_common an_law_common cd_law_common ct_law_common), sl_law_common⟩)
    (c_law_common : PySem.W.codeIn K cd_law_common "_law_common" = true)
    (k_law_common : PySem.W.keepIn K (.ref f_law_common) = true)
    (a_law_fraction : PySem.W.nsIn K mainGlobals "_law_fraction" = some (some (.ref f_law_fraction)))
    (l_law_fraction : K.lookup f_law_fraction = some ⟨oc_law_fraction, od_law_fraction, .func (PySem.W.fnOf "_law_fraction" "_law_fraction" (defArgs st__law_fraction) (defBody st__law_fraction) (defScope st__law_fraction) .none kV_law_fraction dc_law_fraction pm_law_fraction an_law_fraction cd_law_fraction ct_law_fraction), sl_law_fraction⟩)
    (c_law_fraction : PySem.W.codeIn K cd_law_fraction "_law_fraction" = true)
    (k_law_fraction : PySem.W.keepIn K (.ref f_law_fraction) = true)
    (a_law_orders : PySem.W.nsIn K mainGlobals "_law_orders" = some (some (.ref f_law_orders)))
    (l_law_orders : K.lookup f_law_orders = some ⟨oc_law_orders, od_law_orders, .func (PySem.W.fnOf "_law_orders" "_law_orders" (defArgs st__law_orders) (defBody st__law_orders) (defScope st__law_orders) .none kV_law_orders dc_law_orders pm_law_orders an_law_orders cd_law_orders ct_law_orders), sl_law_orders⟩)
    (c_law_orders : PySem.W.codeIn K cd_law_orders "_law_orders" = true)
    (k_law_orders : PySem.W.keepIn K (.ref f_law_orders) = true)
    (a_law_bit : PySem.W.nsIn K mainGlobals "_law_bit" = some (some (.ref f_law_bit)))
    (l_law_bit : K.lookup f_law_bit = some ⟨oc_law_bit, od_law_bit, .func (PySem.W.fnOf "_law_bit" "_law_bit" (defArgs st__law_bit) (defBody st__law_bit) (defScope st__law_bit) .none kV_law_bit dc_law_bit pm_law_bit an_law_bit cd_law_bit ct_law_bit), sl_law_bit⟩)
    (c_law_bit : PySem.W.codeIn K cd_law_bit "_law_bit" = true)
    (k_law_bit : PySem.W.keepIn K (.ref f_law_bit) = true)
    (a_law_worths : PySem.W.nsIn K mainGlobals "_law_worths" = some (some (.ref f_law_worths)))
    (l_law_worths : K.lookup f_law_worths = some ⟨oc_law_worths, od_law_worths, .func (PySem.W.fnOf "_law_worths" "_law_worths" (defArgs st__law_worths) (defBody st__law_worths) (defScope st__law_worths) .none kV_law_worths dc_law_worths pm_law_worths an_law_worths cd_law_worths ct_law_worths), sl_law_worths⟩)
    (c_law_worths : PySem.W.codeIn K cd_law_worths "_law_worths" = true)
    (k_law_worths : PySem.W.keepIn K (.ref f_law_worths) = true)
    (a_law_brought : PySem.W.nsIn K mainGlobals "_law_brought" = some (some (.ref f_law_brought)))
    (l_law_brought : K.lookup f_law_brought = some ⟨oc_law_brought, od_law_brought, .func (PySem.W.fnOf "_law_brought" "_law_brought" (defArgs st__law_brought) (defBody st__law_brought) (defScope st__law_brought) .none kV_law_brought dc_law_brought pm_law_brought an_law_brought cd_law_brought ct_law_brought), sl_law_brought⟩)
    (c_law_brought : PySem.W.codeIn K cd_law_brought "_law_brought" = true)
    (k_law_brought : PySem.W.keepIn K (.ref f_law_brought) = true)
    (a_law_is_refused : PySem.W.nsIn K mainGlobals "_law_is_refused" = some (some (.ref f_law_is_refused)))
    (l_law_is_refused : K.lookup f_law_is_refused = some ⟨oc_law_is_refused, od_law_is_refused, .func (PySem.W.fnOf "_law_is_refused" "_law_is_refused" (defArgs st__law_is_refused) (defBody st__law_is_refused) (defScope st__law_is_refused) .none kV_law_is_refused dc_law_is_refused pm_law_is_refused an_law_is_refused cd_law_is_refused ct_law_is_refused), sl_law_is_refused⟩)
    (c_law_is_refused : PySem.W.codeIn K cd_law_is_refused "_law_is_refused" = true)
    (k_law_is_refused : PySem.W.keepIn K (.ref f_law_is_refused) = true)
    (a_law_is_right : PySem.W.nsIn K mainGlobals "_law_is_right" = some (some (.ref f_law_is_right)))
    (l_law_is_right : K.lookup f_law_is_right = some ⟨oc_law_is_right, od_law_is_right, .func (PySem.W.fnOf "_law_is_right" "_law_is_right" (defArgs st__law_is_right) (defBody st__law_is_right) (defScope st__law_is_right) .none kV_law_is_right dc_law_is_right pm_law_is_right an_law_is_right cd_law_is_right ct_law_is_right), sl_law_is_right⟩)
    (c_law_is_right : PySem.W.codeIn K cd_law_is_right "_law_is_right" = true)
    (k_law_is_right : PySem.W.keepIn K (.ref f_law_is_right) = true)
    (a_law : PySem.W.nsIn K mainGlobals "law" = some (some (.ref f_law)))
    (l_law : K.lookup f_law = some ⟨oc_law, od_law, .func (PySem.W.fnOf "law" "law" (defArgs st_law) (defBody st_law) (defScope st_law) .none kV_law dc_law pm_law an_law cd_law ct_law), sl_law⟩)
    (c_law : PySem.W.codeIn K cd_law "law" = true)
    (k_law : PySem.W.keepIn K (.ref f_law) = true)
    (a_law_hand : PySem.W.nsIn K mainGlobals "_law_hand" = some (some (.ref f_law_hand)))
    (l_law_hand : K.lookup f_law_hand = some ⟨oc_law_hand, od_law_hand, .func (PySem.W.fnOf "_law_hand" "_law_hand" (defArgs st__law_hand) (defBody st__law_hand) (defScope st__law_hand) .none kV_law_hand dc_law_hand pm_law_hand an_law_hand cd_law_hand ct_law_hand), sl_law_hand⟩)
    (c_law_hand : PySem.W.codeIn K cd_law_hand "_law_hand" = true)
    (k_law_hand : PySem.W.keepIn K (.ref f_law_hand) = true)
    (z_abs : PySem.W.nsIn K mainGlobals "abs" = some none)
    (z_all : PySem.W.nsIn K mainGlobals "all" = some none)
    (z_bool : PySem.W.nsIn K mainGlobals "bool" = some none)
    (z_enumerate : PySem.W.nsIn K mainGlobals "enumerate" = some none)
    (z_int : PySem.W.nsIn K mainGlobals "int" = some none)
    (z_isinstance : PySem.W.nsIn K mainGlobals "isinstance" = some none)
    (z_len : PySem.W.nsIn K mainGlobals "len" = some none)
    (z_list : PySem.W.nsIn K mainGlobals "list" = some none)
    (z_range : PySem.W.nsIn K mainGlobals "range" = some none)
    (z_repr : PySem.W.nsIn K mainGlobals "repr" = some none)
    (z_set : PySem.W.nsIn K mainGlobals "set" = some none)
    (z_sum : PySem.W.nsIn K mainGlobals "sum" = some none)
    (z_tuple : PySem.W.nsIn K mainGlobals "tuple" = some none)
    (z_zip : PySem.W.nsIn K mainGlobals "zip" = some none)
    (z_ValueError : PySem.W.nsIn K mainGlobals "ValueError" = some none)
    (y_MOST_PLAYERS : PySem.W.nsIn K mainGlobals "MOST_PLAYERS" = some (some (.int 4 t_MOST_PLAYERS)))
    (A_Gain : PySem.W.nsIn K mainGlobals "Gain" = some (some (.ref C_Gain)))
    (mk_Gain : PySem.W.makesIn K C_Gain = true)
    (in_Gain : PySem.W.findIn K (.ref C_Gain) "__init__" = some (some (.ref f_Gain)))
    (fi_Gain : PySem.W.isFn K (.ref f_Gain) = true)
    (kc_Gain : PySem.W.keepIn K (.ref C_Gain) = true)
    (pg_Gain : PySem.W.plainGet K C_Gain Str.empty = true)
    (hd_Gain : PySem.W.hasDictIn K C_Gain = true)
    (po_Gain : PySem.W.plainOver K C_Gain = true)
    (sa_Gain : PySem.W.findIn K (.ref C_Gain) "__setattr__" = some (some (.builtin "object.__setattr__")))
    (ca_Gain : PySem.W.findIn K (.ref C_Gain) "__class__" = some (some (.builtin "object.__class__")))
    (cm_Gain : PySem.W.mroIn K C_Gain (.type "object") = some true)
    (na_Gain_n : PySem.W.findIn K (.ref C_Gain) "n" = some none)
    (na_Gain_worths : PySem.W.findIn K (.ref C_Gain) "worths" = some none)
    (bi_Gain_NoneType : PySem.W.kitOne K (.type "NoneType") (.ref C_Gain) = some false)
    (bs_Gain_NoneType : PySem.W.subIn K (.type "NoneType") (.ref C_Gain) = some false)
    (bi_Gain_bool : PySem.W.kitOne K (.type "bool") (.ref C_Gain) = some false)
    (bs_Gain_bool : PySem.W.subIn K (.type "bool") (.ref C_Gain) = some false)
    (bi_Gain_int : PySem.W.kitOne K (.type "int") (.ref C_Gain) = some false)
    (bs_Gain_int : PySem.W.subIn K (.type "int") (.ref C_Gain) = some false)
    (bi_Gain_str : PySem.W.kitOne K (.type "str") (.ref C_Gain) = some false)
    (bs_Gain_str : PySem.W.subIn K (.type "str") (.ref C_Gain) = some false)
    (bi_Gain_tuple : PySem.W.kitOne K (.type "tuple") (.ref C_Gain) = some false)
    (bs_Gain_tuple : PySem.W.subIn K (.type "tuple") (.ref C_Gain) = some false)
    (bi_Gain_list : PySem.W.kitOne K (.type "list") (.ref C_Gain) = some false)
    (bs_Gain_list : PySem.W.subIn K (.type "list") (.ref C_Gain) = some false)
    (eq_Gain : PySem.W.findIn K (.ref C_Gain) "__eq__" = some (some (.ref f_Gain_eq)))
    (ef_Gain : PySem.W.isFn K (.ref f_Gain_eq) = true)
    (cg : PySem.W.specialIn K (.builtin "object.__class__") "__get__" = some (some (.builtin "getset_descriptor.__get__")))
    (ct : PySem.W.takesIn K (.builtin "object.__class__") = some true)
    (A_NoOrder : PySem.W.nsIn K mainGlobals "NoOrder" = some (some (.ref C_NoOrder)))
    (A_PlayError : PySem.W.nsIn K mainGlobals "PlayError" = some (some (.ref C_PlayError)))
    (xl_NoOrder : K.lookup C_NoOrder = some (excClassObj nm_NoOrder qq_NoOrder C_NoOrder NN_NoOrder bs_NoOrder bm_NoOrder true sn_NoOrder sub_NoOrder ab_NoOrder col_NoOrder dd_NoOrder m0_NoOrder m1_NoOrder m2_NoOrder m3_NoOrder m5_NoOrder "ValueError.__new__"))
    (rv_NoOrder : PySem.HandSPX.refsVE bm_NoOrder = true)
    (xs_NoOrder : PySem.W.findIn K (.ref C_NoOrder) "__setattr__" = some (some (.builtin "object.__setattr__")))
    (xe_NoOrder : PySem.W.subIn K (.ref C_NoOrder) (.type "BaseException") = some true)
    (xt_NoOrder : PySem.W.typeIn K (.ref C_NoOrder) = some (.type "type"))
    (xk_NoOrder : PySem.W.keepIn K (.ref C_NoOrder) = true)
    (xi_NoOrder : PySem.W.findIn K (.ref C_NoOrder) "__init__" = some (some (.ref f_pe)))
    (tpe : PySem.W.typeIn K (.ref f_pe) = some (.type "function"))
    (vV : PySem.W.findCls K (.type "ValueError") (.type "type") "__init__" = some (.val (.builtin "ValueError.__init__")))
    (hb_NoOrder : PySem.W.subIn K (.ref C_NoOrder) (.type "BaseException") = some true)
    (hc_NoOrder : PySem.W.isClsIn K C_NoOrder = true)
    (ht_NoOrder : PySem.W.typeIn K (.ref C_NoOrder) = some (.type "type"))
    (hm_NoOrder_NoOrder : PySem.W.subIn K (.ref C_NoOrder) (.ref C_NoOrder) = some true)
    (l_Gain : K.lookup f_Gain = some ⟨oc_Gain, od_Gain, .func (PySem.W.fnOf "__init__" "Gain.__init__" (defArgs st_Gain) (defBody st_Gain) (defScope st_Gain) .none kV_Gain dc_Gain pm_Gain an_Gain cd_Gain ct_Gain), sl_Gain⟩)
    (c_Gain : PySem.W.codeIn K cd_Gain "Gain.__init__" = true)
    (k_Gain : PySem.W.keepIn K (.ref f_Gain) = true)
    (l_Gain_eq : K.lookup f_Gain_eq = some ⟨oc_Gain_eq, od_Gain_eq, .func (PySem.W.fnOf "__eq__" "Gain.__eq__" (defArgs st_Gain_eq) (defBody st_Gain_eq) (defScope st_Gain_eq) .none kV_Gain_eq dc_Gain_eq pm_Gain_eq an_Gain_eq cd_Gain_eq ct_Gain_eq), sl_Gain_eq⟩)
    (c_Gain_eq : PySem.W.codeIn K cd_Gain_eq "Gain.__eq__" = true)
    (k_Gain_eq : PySem.W.keepIn K (.ref f_Gain_eq) = true)
    (l_pe : K.lookup f_pe = some ⟨oc_pe, od_pe, .func (PySem.W.fnOf "__init__" "PlayError.__init__" (defArgs st_pe) (defBody st_pe) (defScope st_pe) .none kV_pe dc_pe pm_pe an_pe cd_pe ct_pe), sl_pe⟩)
    (c_pe : PySem.W.codeIn K cd_pe "PlayError.__init__" = true)
    (k_pe : PySem.W.keepIn K (.ref f_pe) = true)
    : ∃ fd : FuncData, (∀ (s : Shared) (u : Value), BindsTo s fd ⟨[u], []⟩ [("script", u)]) ∧ ∀ base : Heap, K.In base → base.Ns mainGlobals mg → FnG true P w K mg base L2.CX0 7 fa fd ["script"] (spLaw K) := by
  have e := hfa.symm.trans (PySem.W.mg_of X G a_law)
  cases e
  have KD_Gain : ClsD K C_Gain ["n", "worths"] := ⟨⟨pg_Gain, hd_Gain, po_Gain, sa_Gain⟩, by intro f hf; simp only [List.mem_cons, List.not_mem_nil, or_false] at hf; rcases hf with rfl | rfl <;> assumption, ca_Gain, cg, ct, cm_Gain, by intro T hT; simp only [List.mem_cons, List.not_mem_nil, or_false] at hT; rcases hT with rfl | rfl | rfl | rfl | rfl | rfl <;> assumption, by intro T hT; simp only [List.mem_cons, List.not_mem_nil, or_false] at hT; rcases hT with rfl | rfl | rfl | rfl | rfl | rfl <;> assumption⟩
  have MTO : MtOk K mg mtL := mt_of (t := mtT) fun p hp C E hC hE => by
    simp only [mtT, List.mem_cons, List.not_mem_nil, or_false] at hp
    rcases hp with rfl
    · have e1 := hC.symm.trans (PySem.W.mg_of X G A_NoOrder)
      have e2 := hE.symm.trans (PySem.W.mg_of X G A_NoOrder)
      cases e1
      cases e2
      exact exm_pair hb_NoOrder hc_NoOrder ht_NoOrder hm_NoOrder_NoOrder
  have GG : Glo K mg := { b_abs := PySem.W.mg_none_of X G z_abs, b_all := PySem.W.mg_none_of X G z_all, b_bool := PySem.W.mg_none_of X G z_bool, b_enumerate := PySem.W.mg_none_of X G z_enumerate, b_int := PySem.W.mg_none_of X G z_int, b_isinstance := PySem.W.mg_none_of X G z_isinstance, b_len := PySem.W.mg_none_of X G z_len, b_list := PySem.W.mg_none_of X G z_list, b_range := PySem.W.mg_none_of X G z_range, b_repr := PySem.W.mg_none_of X G z_repr, b_set := PySem.W.mg_none_of X G z_set, b_sum := PySem.W.mg_none_of X G z_sum, b_tuple := PySem.W.mg_none_of X G z_tuple, b_zip := PySem.W.mg_none_of X G z_zip, c_MOST_PLAYERS := ⟨_, PySem.W.mg_of X G y_MOST_PLAYERS⟩, k_Gain := ⟨_, PySem.W.mg_of X G A_Gain, KD_Gain⟩, x_NoOrder := ⟨_, PySem.W.mg_of X G A_NoOrder⟩, x_PlayError := ⟨_, PySem.W.mg_of X G A_PlayError⟩, mt := MTO }
  have F_is_integer := fun_mk (st := st_is_integer) l_is_integer c_is_integer k_is_integer
  have b_is_integer := F_is_integer.binds (ps := ["thing"]) fun _ _ _ _ _ _ us hl => match us, hl with | [_], _ => rfl
  have g_is_integer := PySem.W.mg_of X G a_is_integer
  have F_is_within := fun_mk (st := st_is_within) l_is_within c_is_within k_is_within
  have b_is_within := F_is_within.binds (ps := ["thing", "least", "most"]) fun _ _ _ _ _ _ us hl => match us, hl with | [_, _, _], _ => rfl
  have g_is_within := PySem.W.mg_of X G a_is_within
  have F_is_tuple := fun_mk (st := st_is_tuple) l_is_tuple c_is_tuple k_is_tuple
  have b_is_tuple := F_is_tuple.binds (ps := ["thing", "size"]) fun _ _ _ _ _ _ us hl => match us, hl with | [_, _], _ => rfl
  have g_is_tuple := PySem.W.mg_of X G a_is_tuple
  have F_is_order := fun_mk (st := st_is_order) l_is_order c_is_order k_is_order
  have b_is_order := F_is_order.binds (ps := ["thing", "many"]) fun _ _ _ _ _ _ us hl => match us, hl with | [_, _], _ => rfl
  have g_is_order := PySem.W.mg_of X G a_is_order
  have F_orders_of := fun_mk (st := st_orders_of) l_orders_of c_orders_of k_orders_of
  have b_orders_of := F_orders_of.binds (ps := ["things"]) fun _ _ _ _ _ _ us hl => match us, hl with | [_], _ => rfl
  have g_orders_of := PySem.W.mg_of X G a_orders_of
  have F_lots_of := fun_mk (st := st_lots_of) l_lots_of c_lots_of k_lots_of
  have b_lots_of := F_lots_of.binds (ps := ["many"]) fun _ _ _ _ _ _ us hl => match us, hl with | [_], _ => rfl
  have g_lots_of := PySem.W.mg_of X G a_lots_of
  have F_divisor_of := fun_mk (st := st_divisor_of) l_divisor_of c_divisor_of k_divisor_of
  have b_divisor_of := F_divisor_of.binds (ps := ["one", "other"]) fun _ _ _ _ _ _ us hl => match us, hl with | [_, _], _ => rfl
  have g_divisor_of := PySem.W.mg_of X G a_divisor_of
  have F_lowest := fun_mk (st := st_lowest) l_lowest c_lowest k_lowest
  have b_lowest := F_lowest.binds (ps := ["p", "q"]) fun _ _ _ _ _ _ us hl => match us, hl with | [_, _], _ => rfl
  have g_lowest := PySem.W.mg_of X G a_lowest
  have F_Gain := fun_mk (st := st_Gain) l_Gain c_Gain k_Gain
  have b_Gain := F_Gain.binds (ps := ["self", "n", "worths"]) fun _ _ _ _ _ _ us hl => match us, hl with | [_, _, _], _ => rfl
  have F_Gain_eq := fun_mk (st := st_Gain_eq) l_Gain_eq c_Gain_eq k_Gain_eq
  have b_Gain_eq := F_Gain_eq.binds (ps := ["self", "other"]) fun _ _ _ _ _ _ us hl => match us, hl with | [_, _], _ => rfl
  have F_number_of_lot := fun_mk (st := st_number_of_lot) l_number_of_lot c_number_of_lot k_number_of_lot
  have b_number_of_lot := F_number_of_lot.binds (ps := ["lot"]) fun _ _ _ _ _ _ us hl => match us, hl with | [_], _ => rfl
  have g_number_of_lot := PySem.W.mg_of X G a_number_of_lot
  have F_raw_brings := fun_mk (st := st_raw_brings) l_raw_brings c_raw_brings k_raw_brings
  have b_raw_brings := F_raw_brings.binds (ps := ["gain", "order"]) fun _ _ _ _ _ _ us hl => match us, hl with | [_, _], _ => rfl
  have g_raw_brings := PySem.W.mg_of X G a_raw_brings
  have F_brings := fun_mk (st := st_brings) l_brings c_brings k_brings
  have b_brings := F_brings.binds (ps := ["gain", "order"]) fun _ _ _ _ _ _ us hl => match us, hl with | [_, _], _ => rfl
  have g_brings := PySem.W.mg_of X G a_brings
  have F_shapley := fun_mk (st := st_shapley) l_shapley c_shapley k_shapley
  have b_shapley := F_shapley.binds (ps := ["gain"]) fun _ _ _ _ _ _ us hl => match us, hl with | [_], _ => rfl
  have g_shapley := PySem.W.mg_of X G a_shapley
  have F_dividends := fun_mk (st := st_dividends) l_dividends c_dividends k_dividends
  have b_dividends := F_dividends.binds (ps := ["gain"]) fun _ _ _ _ _ _ us hl => match us, hl with | [_], _ => rfl
  have g_dividends := PySem.W.mg_of X G a_dividends
  have F_is_rising := fun_mk (st := st_is_rising) l_is_rising c_is_rising k_is_rising
  have b_is_rising := F_is_rising.binds (ps := ["gain"]) fun _ _ _ _ _ _ us hl => match us, hl with | [_], _ => rfl
  have g_is_rising := PySem.W.mg_of X G a_is_rising
  have F_swings := fun_mk (st := st_swings) l_swings c_swings k_swings
  have b_swings := F_swings.binds (ps := ["gain"]) fun _ _ _ _ _ _ us hl => match us, hl with | [_], _ => rfl
  have g_swings := PySem.W.mg_of X G a_swings
  have F_law_draw := fun_mk (st := st__law_draw) l_law_draw c_law_draw k_law_draw
  have b_law_draw := F_law_draw.binds (ps := ["hand", "many"]) fun _ _ _ _ _ _ us hl => match us, hl with | [_, _], _ => rfl
  have g_law_draw := PySem.W.mg_of X G a_law_draw
  have F_law_some := fun_mk (st := st__law_some) l_law_some c_law_some k_law_some
  have b_law_some := F_law_some.binds (ps := ["hand", "things"]) fun _ _ _ _ _ _ us hl => match us, hl with | [_, _], _ => rfl
  have g_law_some := PySem.W.mg_of X G a_law_some
  have F_law_common := fun_mk (st := st__law_common) l_law_common c_law_common k_law_common
  have b_law_common := F_law_common.binds (ps := ["one", "other"]) fun _ _ _ _ _ _ us hl => match us, hl with | [_, _], _ => rfl
  have g_law_common := PySem.W.mg_of X G a_law_common
  have F_law_fraction := fun_mk (st := st__law_fraction) l_law_fraction c_law_fraction k_law_fraction
  have b_law_fraction := F_law_fraction.binds (ps := ["top", "bottom"]) fun _ _ _ _ _ _ us hl => match us, hl with | [_, _], _ => rfl
  have g_law_fraction := PySem.W.mg_of X G a_law_fraction
  have F_law_orders := fun_mk (st := st__law_orders) l_law_orders c_law_orders k_law_orders
  have b_law_orders := F_law_orders.binds (ps := ["n"]) fun _ _ _ _ _ _ us hl => match us, hl with | [_], _ => rfl
  have g_law_orders := PySem.W.mg_of X G a_law_orders
  have F_law_bit := fun_mk (st := st__law_bit) l_law_bit c_law_bit k_law_bit
  have b_law_bit := F_law_bit.binds (ps := ["one"]) fun _ _ _ _ _ _ us hl => match us, hl with | [_], _ => rfl
  have g_law_bit := PySem.W.mg_of X G a_law_bit
  have F_law_worths := fun_mk (st := st__law_worths) l_law_worths c_law_worths k_law_worths
  have b_law_worths := F_law_worths.binds (ps := ["hand", "n"]) fun _ _ _ _ _ _ us hl => match us, hl with | [_, _], _ => rfl
  have g_law_worths := PySem.W.mg_of X G a_law_worths
  have F_law_brought := fun_mk (st := st__law_brought) l_law_brought c_law_brought k_law_brought
  have b_law_brought := F_law_brought.binds (ps := ["worths", "order"]) fun _ _ _ _ _ _ us hl => match us, hl with | [_, _], _ => rfl
  have g_law_brought := PySem.W.mg_of X G a_law_brought
  have F_law_is_refused := fun_mk (st := st__law_is_refused) l_law_is_refused c_law_is_refused k_law_is_refused
  have b_law_is_refused := F_law_is_refused.binds (ps := ["hand", "gain", "n"]) fun _ _ _ _ _ _ us hl => match us, hl with | [_, _, _], _ => rfl
  have g_law_is_refused := PySem.W.mg_of X G a_law_is_refused
  have F_law_is_right := fun_mk (st := st__law_is_right) l_law_is_right c_law_is_right k_law_is_right
  have b_law_is_right := F_law_is_right.binds (ps := ["hand"]) fun _ _ _ _ _ _ us hl => match us, hl with | [_], _ => rfl
  have g_law_is_right := PySem.W.mg_of X G a_law_is_right
  have F_law := fun_mk (st := st_law) l_law c_law k_law
  have b_law := F_law.binds (ps := ["script"]) fun _ _ _ _ _ _ us hl => match us, hl with | [_], _ => rfl
  have F_law_hand := fun_mk (st := st__law_hand) l_law_hand c_law_hand k_law_hand
  have b_law_hand := F_law_hand.binds (ps := ["script"]) fun _ _ _ _ _ _ us hl => match us, hl with | [_], _ => rfl
  have g_law_hand := PySem.W.mg_of X G a_law_hand
  have F_pe := fun_mk (st := st_pe) l_pe c_pe k_pe
  have b_pe := F_pe.binds (ps := ["self"]) fun _ _ _ _ _ _ us hl => match us, hl with | [_], _ => rfl
  refine ⟨PySem.W.fnOf "law" "law" (defArgs st_law) (defBody st_law) (defScope st_law) .none kV_law dc_law pm_law an_law cd_law ct_law, fun s u => .of_eq rfl, fun base _ _ => ?_⟩
  have FPE := fn_pe0 (P := P) (w := w) (mg := mg) (base := base) F_pe (PySem.W.mg_none_of X G z_ValueError) vV
  have X_NoOrder : Exc0 P w K mg base 1 "NoOrder" := ⟨C_NoOrder, f_pe, _, ⟨⟨nm_NoOrder, qq_NoOrder, NN_NoOrder, bs_NoOrder, bm_NoOrder, sn_NoOrder, sub_NoOrder, ab_NoOrder, col_NoOrder, dd_NoOrder, m0_NoOrder, m1_NoOrder, m2_NoOrder, m3_NoOrder, m5_NoOrder, xl_NoOrder, rv_NoOrder⟩, xs_NoOrder, xe_NoOrder, xt_NoOrder, xk_NoOrder⟩, PySem.W.mg_of X G A_NoOrder, xi_NoOrder, tpe, FPE, b_pe⟩
  have K_is_integer : ∀ g : Bool, CalG g P w K mg base 1 "is_integer" S_is_integer 1 := fun g => DL.c_is_integer GG  F_is_integer g_is_integer b_is_integer v_is_integer
  have K_is_within : ∀ g : Bool, CalG g P w K mg base 2 "is_within" S_is_within 3 := fun g => DL.c_is_within GG (K_is_integer g) F_is_within g_is_within b_is_within v_is_within
  have K_is_tuple : ∀ g : Bool, CalG g P w K mg base 1 "is_tuple" S_is_tuple 2 := fun g => DL.c_is_tuple GG  F_is_tuple g_is_tuple b_is_tuple v_is_tuple
  have K_is_order : ∀ g : Bool, CalG g P w K mg base 3 "is_order" S_is_order 2 := fun g => DL.c_is_order GG (K_is_tuple g) (K_is_within g) F_is_order g_is_order b_is_order v_is_order
  have K_orders_of : ∀ g : Bool, CalG g P w K mg base 1 "orders_of" S_orders_of 1 := fun g => DL.c_orders_of GG  F_orders_of g_orders_of b_orders_of v_orders_of
  have K_lots_of : ∀ g : Bool, CalG g P w K mg base 1 "lots_of" S_lots_of 1 := fun g => DL.c_lots_of GG  F_lots_of g_lots_of b_lots_of v_lots_of
  have K_divisor_of : ∀ g : Bool, CalG g P w K mg base 1 "divisor_of" S_divisor_of 2 := fun g => DL.c_divisor_of GG  F_divisor_of g_divisor_of b_divisor_of v_divisor_of
  have K_lowest : ∀ g : Bool, CalG g P w K mg base 2 "lowest" S_lowest 2 := fun g => DL.c_lowest GG (K_divisor_of g) F_lowest g_lowest b_lowest v_lowest
  have KC_Gain : CalC P w K mg base 3 "Gain" S_Gain 2 := DL.k_Gain GG (K_lots_of false) (K_is_tuple false) (K_is_integer false) (K_is_within false) F_Gain ⟨mk_Gain, in_Gain, fi_Gain, kc_Gain⟩ (PySem.W.mg_of X G A_Gain) b_Gain v_Gain
  have KE_Gain : CalE P w K mg base 1 "Gain" S_Gain_eq := DL.e_Gain GG  F_Gain_eq (PySem.W.mg_of X G A_Gain) eq_Gain ef_Gain b_Gain_eq v_Gain_eq
  have K_number_of_lot : ∀ g : Bool, CalG g P w K mg base 1 "number_of_lot" S_number_of_lot 1 := fun g => DL.c_number_of_lot GG  F_number_of_lot g_number_of_lot b_number_of_lot v_number_of_lot
  have K_raw_brings : ∀ g : Bool, CalG g P w K mg base 2 "raw_brings" S_raw_brings 2 := fun g => DL.c_raw_brings GG (K_number_of_lot g) F_raw_brings g_raw_brings b_raw_brings v_raw_brings
  have K_brings : ∀ g : Bool, CalG g P w K mg base 4 "brings" S_brings 2 := fun g => DL.c_brings GG (K_is_order g) (K_raw_brings g) F_brings g_brings b_brings v_brings
  have KX_brings : ∀ g : Bool, CalX g P w K mg base 4 "brings" SX_brings 2 := fun g => DL.cx_brings GG (K_is_order g) (K_raw_brings g) X_NoOrder F_brings g_brings b_brings vx_brings
  have K_shapley : ∀ g : Bool, CalG g P w K mg base 3 "shapley" S_shapley 1 := fun g => DL.c_shapley GG (K_orders_of g) (K_raw_brings g) (K_lowest g) F_shapley g_shapley b_shapley v_shapley
  have K_dividends : ∀ g : Bool, CalG g P w K mg base 2 "dividends" S_dividends 1 := fun g => DL.c_dividends GG (K_lots_of g) F_dividends g_dividends b_dividends v_dividends
  have K_is_rising : ∀ g : Bool, CalG g P w K mg base 2 "is_rising" S_is_rising 1 := fun g => DL.c_is_rising GG (K_lots_of g) (K_number_of_lot g) F_is_rising g_is_rising b_is_rising v_is_rising
  have K_swings : ∀ g : Bool, CalG g P w K mg base 2 "swings" S_swings 1 := fun g => DL.c_swings GG (K_lots_of g) (K_number_of_lot g) F_swings g_swings b_swings v_swings
  have K_law_draw : ∀ g : Bool, CalG g P w K mg base 1 "_law_draw" S__law_draw 2 := fun g => DL.c__law_draw GG  F_law_draw g_law_draw b_law_draw
  have K_law_some : ∀ g : Bool, CalG g P w K mg base 2 "_law_some" S__law_some 2 := fun g => DL.c__law_some GG (K_law_draw g) F_law_some g_law_some b_law_some v__law_some
  have K_law_common : ∀ g : Bool, CalG g P w K mg base 1 "_law_common" S__law_common 2 := fun g => DL.c__law_common GG  F_law_common g_law_common b_law_common v__law_common
  have K_law_fraction : ∀ g : Bool, CalG g P w K mg base 2 "_law_fraction" S__law_fraction 2 := fun g => DL.c__law_fraction GG (K_law_common g) F_law_fraction g_law_fraction b_law_fraction v__law_fraction
  have K_law_orders : ∀ g : Bool, CalG g P w K mg base 1 "_law_orders" S__law_orders 1 := fun g => DL.c__law_orders GG  F_law_orders g_law_orders b_law_orders v__law_orders
  have K_law_bit : ∀ g : Bool, CalG g P w K mg base 1 "_law_bit" S__law_bit 1 := fun g => DL.c__law_bit GG  F_law_bit g_law_bit b_law_bit v__law_bit
  have K_law_worths : ∀ g : Bool, CalG g P w K mg base 3 "_law_worths" S__law_worths 2 := fun g => DL.c__law_worths GG (K_law_draw g) (K_law_some g) (K_law_bit g) F_law_worths g_law_worths b_law_worths v__law_worths
  have K_law_brought : ∀ g : Bool, CalG g P w K mg base 2 "_law_brought" S__law_brought 2 := fun g => DL.c__law_brought GG (K_law_bit g) F_law_brought g_law_brought b_law_brought v__law_brought
  have K_law_is_refused : ∀ g : Bool, CalG g P w K mg base 5 "_law_is_refused" S__law_is_refused 3 := fun g => DL.c__law_is_refused GG (K_law_some g) (KX_brings g) F_law_is_refused g_law_is_refused b_law_is_refused v__law_is_refused
  have K_law_is_right : CalG true P w K mg base 6 "_law_is_right" S__law_is_right 1 := DL.c__law_is_right GG (K_law_draw true) (K_law_worths true) (K_law_orders true) KC_Gain (K_law_brought true) (K_brings true) (K_law_fraction true) (K_shapley true) (K_dividends true) (K_law_bit true) (K_is_rising true) (K_swings true) KE_Gain (K_law_is_refused true) F_law_is_right g_law_is_right b_law_is_right v__law_is_right
  exact fn_law GG (fn_hand GG F_law_hand) g_law_hand k_law_hand b_law_hand KC_Gain (K_shapley true) (K_swings true) (K_is_rising true) K_law_is_right F_law
theorem law_go {P : Program} {w : World} {K : PySem.W.Frag} {mg mb : Str → Option Value} {fa a : Addr} {S : Shared} {vs : List Value} {ns : List Int}
    {f_is_integer f_is_within f_is_tuple f_is_order f_orders_of f_lots_of f_divisor_of f_lowest f_Gain f_Gain_eq f_number_of_lot f_raw_brings f_brings f_shapley f_dividends f_is_rising f_swings f_law_draw f_law_some f_law_common f_law_fraction f_law_orders f_law_bit f_law_worths f_law_brought f_law_is_refused f_law_is_right f_law f_law_hand f_pe C_Gain C_NoOrder C_PlayError : Addr}
    {od_is_integer an_is_integer od_is_within an_is_within od_is_tuple an_is_tuple od_is_order an_is_order od_orders_of an_orders_of od_lots_of an_lots_of od_divisor_of an_divisor_of od_lowest an_lowest od_Gain an_Gain od_Gain_eq an_Gain_eq od_number_of_lot an_number_of_lot od_raw_brings an_raw_brings od_brings an_brings od_shapley an_shapley od_dividends an_dividends od_is_rising an_is_rising od_swings an_swings od_law_draw an_law_draw od_law_some an_law_some od_law_common an_law_common od_law_fraction an_law_fraction od_law_orders an_law_orders od_law_bit an_law_bit od_law_worths an_law_worths od_law_brought an_law_brought od_law_is_refused an_law_is_refused od_law_is_right an_law_is_right od_law an_law od_law_hand an_law_hand od_pe an_pe : Option Addr}
    {sl_is_integer sl_is_within sl_is_tuple sl_is_order sl_orders_of sl_lots_of sl_divisor_of sl_lowest sl_Gain sl_Gain_eq sl_number_of_lot sl_raw_brings sl_brings sl_shapley sl_dividends sl_is_rising sl_swings sl_law_draw sl_law_some sl_law_common sl_law_fraction sl_law_orders sl_law_bit sl_law_worths sl_law_brought sl_law_is_refused sl_law_is_right sl_law sl_law_hand sl_pe : Array (Option Value)}
    {oc_is_integer kV_is_integer dc_is_integer pm_is_integer ct_is_integer cd_is_integer oc_is_within kV_is_within dc_is_within pm_is_within ct_is_within cd_is_within oc_is_tuple kV_is_tuple dc_is_tuple pm_is_tuple ct_is_tuple cd_is_tuple oc_is_order kV_is_order dc_is_order pm_is_order ct_is_order cd_is_order oc_orders_of kV_orders_of dc_orders_of pm_orders_of ct_orders_of cd_orders_of oc_lots_of kV_lots_of dc_lots_of pm_lots_of ct_lots_of cd_lots_of oc_divisor_of kV_divisor_of dc_divisor_of pm_divisor_of ct_divisor_of cd_divisor_of oc_lowest kV_lowest dc_lowest pm_lowest ct_lowest cd_lowest oc_Gain kV_Gain dc_Gain pm_Gain ct_Gain cd_Gain oc_Gain_eq kV_Gain_eq dc_Gain_eq pm_Gain_eq ct_Gain_eq cd_Gain_eq oc_number_of_lot kV_number_of_lot dc_number_of_lot pm_number_of_lot ct_number_of_lot cd_number_of_lot oc_raw_brings kV_raw_brings dc_raw_brings pm_raw_brings ct_raw_brings cd_raw_brings oc_brings kV_brings dc_brings pm_brings ct_brings cd_brings oc_shapley kV_shapley dc_shapley pm_shapley ct_shapley cd_shapley oc_dividends kV_dividends dc_dividends pm_dividends ct_dividends cd_dividends oc_is_rising kV_is_rising dc_is_rising pm_is_rising ct_is_rising cd_is_rising oc_swings kV_swings dc_swings pm_swings ct_swings cd_swings oc_law_draw kV_law_draw dc_law_draw pm_law_draw ct_law_draw cd_law_draw oc_law_some kV_law_some dc_law_some pm_law_some ct_law_some cd_law_some oc_law_common kV_law_common dc_law_common pm_law_common ct_law_common cd_law_common oc_law_fraction kV_law_fraction dc_law_fraction pm_law_fraction ct_law_fraction cd_law_fraction oc_law_orders kV_law_orders dc_law_orders pm_law_orders ct_law_orders cd_law_orders oc_law_bit kV_law_bit dc_law_bit pm_law_bit ct_law_bit cd_law_bit oc_law_worths kV_law_worths dc_law_worths pm_law_worths ct_law_worths cd_law_worths oc_law_brought kV_law_brought dc_law_brought pm_law_brought ct_law_brought cd_law_brought oc_law_is_refused kV_law_is_refused dc_law_is_refused pm_law_is_refused ct_law_is_refused cd_law_is_refused oc_law_is_right kV_law_is_right dc_law_is_right pm_law_is_right ct_law_is_right cd_law_is_right oc_law kV_law dc_law pm_law ct_law cd_law oc_law_hand kV_law_hand dc_law_hand pm_law_hand ct_law_hand cd_law_hand oc_pe kV_pe dc_pe pm_pe ct_pe cd_pe : Value}
    {t_MOST_PLAYERS : Tok}
    {nm_NoOrder qq_NoOrder : Str} {NN_NoOrder : Addr} {bs_NoOrder bm_NoOrder : List Value} {sn_NoOrder : List Str} {sub_NoOrder : List Value} {ab_NoOrder : Bool} {col_NoOrder : Option Bool} {dd_NoOrder : Option Addr} {m0_NoOrder m1_NoOrder m2_NoOrder m3_NoOrder m5_NoOrder : Option Value}
    (inK : K.In S.heap) (nsG : S.heap.Ns mainGlobals mg) (nsB : S.heap.Ns builtinsNs mb) (boots : ∀ y : Str, y ≠ "__name__" → mb y = bootBuiltins y) (free : S.heap.NoLimit) (gen0 : S.gens = #[])
    (scr : S.heap.get? a = some { cls := .type "list", data := .seq vs.toArray }) (intz : IntsAre vs ns) (short : ns.length ≤ 63) (hfa : mg "law" = some (.ref fa))
    (a_is_integer : PySem.W.nsIn K mainGlobals "is_integer" = some (some (.ref f_is_integer)))
    (l_is_integer : K.lookup f_is_integer = some ⟨oc_is_integer, od_is_integer, .func (PySem.W.fnOf "is_integer" "is_integer" (defArgs st_is_integer) (defBody st_is_integer) (defScope st_is_integer) .none kV_is_integer dc_is_integer pm_is_integer an_is_integer cd_is_integer ct_is_integer), sl_is_integer⟩)
    (c_is_integer : PySem.W.codeIn K cd_is_integer "is_integer" = true)
    (k_is_integer : PySem.W.keepIn K (.ref f_is_integer) = true)
    (a_is_within : PySem.W.nsIn K mainGlobals "is_within" = some (some (.ref f_is_within)))
    (l_is_within : K.lookup f_is_within = some ⟨oc_is_within, od_is_within, .func (PySem.W.fnOf "is_within" "is_within" (defArgs st_is_within) (defBody st_is_within) (defScope st_is_within) .none kV_is_within dc_is_within pm_is_within an_is_within cd_is_within ct_is_within), sl_is_within⟩)
    (c_is_within : PySem.W.codeIn K cd_is_within "is_within" = true)
    (k_is_within : PySem.W.keepIn K (.ref f_is_within) = true)
    (a_is_tuple : PySem.W.nsIn K mainGlobals "is_tuple" = some (some (.ref f_is_tuple)))
    (l_is_tuple : K.lookup f_is_tuple = some ⟨oc_is_tuple, od_is_tuple, .func (PySem.W.fnOf "is_tuple" "is_tuple" (defArgs st_is_tuple) (defBody st_is_tuple) (defScope st_is_tuple) .none kV_is_tuple dc_is_tuple pm_is_tuple an_is_tuple cd_is_tuple ct_is_tuple), sl_is_tuple⟩)
    (c_is_tuple : PySem.W.codeIn K cd_is_tuple "is_tuple" = true)
    (k_is_tuple : PySem.W.keepIn K (.ref f_is_tuple) = true)
    (a_is_order : PySem.W.nsIn K mainGlobals "is_order" = some (some (.ref f_is_order)))
    (l_is_order : K.lookup f_is_order = some ⟨oc_is_order, od_is_order, .func (PySem.W.fnOf "is_order" "is_order" (defArgs st_is_order) (defBody st_is_order) (defScope st_is_order) .none kV_is_order dc_is_order pm_is_order an_is_order cd_is_order ct_is_order), sl_is_order⟩)
    (c_is_order : PySem.W.codeIn K cd_is_order "is_order" = true)
    (k_is_order : PySem.W.keepIn K (.ref f_is_order) = true)
    (a_orders_of : PySem.W.nsIn K mainGlobals "orders_of" = some (some (.ref f_orders_of)))
    (l_orders_of : K.lookup f_orders_of = some ⟨oc_orders_of, od_orders_of, .func (PySem.W.fnOf "orders_of" "orders_of" (defArgs st_orders_of) (defBody st_orders_of) (defScope st_orders_of) .none kV_orders_of dc_orders_of pm_orders_of an_orders_of cd_orders_of ct_orders_of), sl_orders_of⟩)
    (c_orders_of : PySem.W.codeIn K cd_orders_of "orders_of" = true)
    (k_orders_of : PySem.W.keepIn K (.ref f_orders_of) = true)
    (a_lots_of : PySem.W.nsIn K mainGlobals "lots_of" = some (some (.ref f_lots_of)))
    (l_lots_of : K.lookup f_lots_of = some ⟨oc_lots_of, od_lots_of, .func (PySem.W.fnOf "lots_of" "lots_of" (defArgs st_lots_of) (defBody st_lots_of) (defScope st_lots_of) .none kV_lots_of dc_lots_of pm_lots_of an_lots_of cd_lots_of ct_lots_of), sl_lots_of⟩)
    (c_lots_of : PySem.W.codeIn K cd_lots_of "lots_of" = true)
    (k_lots_of : PySem.W.keepIn K (.ref f_lots_of) = true)
    (a_divisor_of : PySem.W.nsIn K mainGlobals "divisor_of" = some (some (.ref f_divisor_of)))
    (l_divisor_of : K.lookup f_divisor_of = some ⟨oc_divisor_of, od_divisor_of, .func (PySem.W.fnOf "divisor_of" "divisor_of" (defArgs st_divisor_of) (defBody st_divisor_of) (defScope st_divisor_of) .none kV_divisor_of dc_divisor_of pm_divisor_of an_divisor_of cd_divisor_of ct_divisor_of), sl_divisor_of⟩)
    (c_divisor_of : PySem.W.codeIn K cd_divisor_of "divisor_of" = true)
    (k_divisor_of : PySem.W.keepIn K (.ref f_divisor_of) = true)
    (a_lowest : PySem.W.nsIn K mainGlobals "lowest" = some (some (.ref f_lowest)))
    (l_lowest : K.lookup f_lowest = some ⟨oc_lowest, od_lowest, .func (PySem.W.fnOf "lowest" "lowest" (defArgs st_lowest) (defBody st_lowest) (defScope st_lowest) .none kV_lowest dc_lowest pm_lowest an_lowest cd_lowest ct_lowest), sl_lowest⟩)
    (c_lowest : PySem.W.codeIn K cd_lowest "lowest" = true)
    (k_lowest : PySem.W.keepIn K (.ref f_lowest) = true)
    (a_number_of_lot : PySem.W.nsIn K mainGlobals "number_of_lot" = some (some (.ref f_number_of_lot)))
    (l_number_of_lot : K.lookup f_number_of_lot = some ⟨oc_number_of_lot, od_number_of_lot, .func (PySem.W.fnOf "number_of_lot" "number_of_lot" (defArgs st_number_of_lot) (defBody st_number_of_lot) (defScope st_number_of_lot) .none kV_number_of_lot dc_number_of_lot pm_number_of_lot an_number_of_lot cd_number_of_lot ct_number_of_lot), sl_number_of_lot⟩)
    (c_number_of_lot : PySem.W.codeIn K cd_number_of_lot "number_of_lot" = true)
    (k_number_of_lot : PySem.W.keepIn K (.ref f_number_of_lot) = true)
    (a_raw_brings : PySem.W.nsIn K mainGlobals "raw_brings" = some (some (.ref f_raw_brings)))
    (l_raw_brings : K.lookup f_raw_brings = some ⟨oc_raw_brings, od_raw_brings, .func (PySem.W.fnOf "raw_brings" "raw_brings" (defArgs st_raw_brings) (defBody st_raw_brings) (defScope st_raw_brings) .none kV_raw_brings dc_raw_brings pm_raw_brings an_raw_brings cd_raw_brings ct_raw_brings), sl_raw_brings⟩)
    (c_raw_brings : PySem.W.codeIn K cd_raw_brings "raw_brings" = true)
    (k_raw_brings : PySem.W.keepIn K (.ref f_raw_brings) = true)
    (a_brings : PySem.W.nsIn K mainGlobals "brings" = some (some (.ref f_brings)))
    (l_brings : K.lookup f_brings = some ⟨oc_brings, od_brings, .func (PySem.W.fnOf "brings" "brings" (defArgs st_brings) (defBody st_brings) (defScope st_brings) .none kV_brings dc_brings pm_brings an_brings cd_brings ct_brings), sl_brings⟩)
    (c_brings : PySem.W.codeIn K cd_brings "brings" = true)
    (k_brings : PySem.W.keepIn K (.ref f_brings) = true)
    (a_shapley : PySem.W.nsIn K mainGlobals "shapley" = some (some (.ref f_shapley)))
    (l_shapley : K.lookup f_shapley = some ⟨oc_shapley, od_shapley, .func (PySem.W.fnOf "shapley" "shapley" (defArgs st_shapley) (defBody st_shapley) (defScope st_shapley) .none kV_shapley dc_shapley pm_shapley an_shapley cd_shapley ct_shapley), sl_shapley⟩)
    (c_shapley : PySem.W.codeIn K cd_shapley "shapley" = true)
    (k_shapley : PySem.W.keepIn K (.ref f_shapley) = true)
    (a_dividends : PySem.W.nsIn K mainGlobals "dividends" = some (some (.ref f_dividends)))
    (l_dividends : K.lookup f_dividends = some ⟨oc_dividends, od_dividends, .func (PySem.W.fnOf "dividends" "dividends" (defArgs st_dividends) (defBody st_dividends) (defScope st_dividends) .none kV_dividends dc_dividends pm_dividends an_dividends cd_dividends ct_dividends), sl_dividends⟩)
    (c_dividends : PySem.W.codeIn K cd_dividends "dividends" = true)
    (k_dividends : PySem.W.keepIn K (.ref f_dividends) = true)
    (a_is_rising : PySem.W.nsIn K mainGlobals "is_rising" = some (some (.ref f_is_rising)))
    (l_is_rising : K.lookup f_is_rising = some ⟨oc_is_rising, od_is_rising, .func (PySem.W.fnOf "is_rising" "is_rising" (defArgs st_is_rising) (defBody st_is_rising) (defScope st_is_rising) .none kV_is_rising dc_is_rising pm_is_rising an_is_rising cd_is_rising ct_is_rising), sl_is_rising⟩)
    (c_is_rising : PySem.W.codeIn K cd_is_rising "is_rising" = true)
    (k_is_rising : PySem.W.keepIn K (.ref f_is_rising) = true)
    (a_swings : PySem.W.nsIn K mainGlobals "swings" = some (some (.ref f_swings)))
    (l_swings : K.lookup f_swings = some ⟨oc_swings, od_swings, .func (PySem.W.fnOf "swings" "swings" (defArgs st_swings) (defBody st_swings) (defScope st_swings) .none kV_swings dc_swings pm_swings an_swings cd_swings ct_swings), sl_swings⟩)
    (c_swings : PySem.W.codeIn K cd_swings "swings" = true)
    (k_swings : PySem.W.keepIn K (.ref f_swings) = true)
    (a_law_draw : PySem.W.nsIn K mainGlobals "_law_draw" = some (some (.ref f_law_draw)))
    (l_law_draw : K.lookup f_law_draw = some ⟨oc_law_draw, od_law_draw, .func (PySem.W.fnOf "_law_draw" "_law_draw" (defArgs st__law_draw) (defBody st__law_draw) (defScope st__law_draw) .none kV_law_draw dc_law_draw pm_law_draw an_law_draw cd_law_draw ct_law_draw), sl_law_draw⟩)
    (c_law_draw : PySem.W.codeIn K cd_law_draw "_law_draw" = true)
    (k_law_draw : PySem.W.keepIn K (.ref f_law_draw) = true)
    (a_law_some : PySem.W.nsIn K mainGlobals "_law_some" = some (some (.ref f_law_some)))
    (l_law_some : K.lookup f_law_some = some ⟨oc_law_some, od_law_some, .func (PySem.W.fnOf "_law_some" "_law_some" (defArgs st__law_some) (defBody st__law_some) (defScope st__law_some) .none kV_law_some dc_law_some pm_law_some an_law_some cd_law_some ct_law_some), sl_law_some⟩)
    (c_law_some : PySem.W.codeIn K cd_law_some "_law_some" = true)
    (k_law_some : PySem.W.keepIn K (.ref f_law_some) = true)
    (a_law_common : PySem.W.nsIn K mainGlobals "_law_common" = some (some (.ref f_law_common)))
    (l_law_common : K.lookup f_law_common = some ⟨oc_law_common, od_law_common, .func (PySem.W.fnOf "_law_common" "_law_common" (defArgs st__law_common) (defBody st__law_common) (defScope st__law_common) .none kV_law_common dc_law_common pm_law_common an_law_common cd_law_common ct_law_common), sl_law_common⟩)
    (c_law_common : PySem.W.codeIn K cd_law_common "_law_common" = true)
    (k_law_common : PySem.W.keepIn K (.ref f_law_common) = true)
    (a_law_fraction : PySem.W.nsIn K mainGlobals "_law_fraction" = some (some (.ref f_law_fraction)))
    (l_law_fraction : K.lookup f_law_fraction = some ⟨oc_law_fraction, od_law_fraction, .func (PySem.W.fnOf "_law_fraction" "_law_fraction" (defArgs st__law_fraction) (defBody st__law_fraction) (defScope st__law_fraction) .none kV_law_fraction dc_law_fraction pm_law_fraction an_law_fraction cd_law_fraction ct_law_fraction), sl_law_fraction⟩)
    (c_law_fraction : PySem.W.codeIn K cd_law_fraction "_law_fraction" = true)
    (k_law_fraction : PySem.W.keepIn K (.ref f_law_fraction) = true)
    (a_law_orders : PySem.W.nsIn K mainGlobals "_law_orders" = some (some (.ref f_law_orders)))
    (l_law_orders : K.lookup f_law_orders = some ⟨oc_law_orders, od_law_orders, .func (PySem.W.fnOf "_law_orders" "_law_orders" (defArgs st__law_orders) (defBody st__law_orders) (defScope st__law_orders) .none kV_law_orders dc_law_orders pm_law_orders an_law_orders cd_law_orders ct_law_orders), sl_law_orders⟩)
    (c_law_orders : PySem.W.codeIn K cd_law_orders "_law_orders" = true)
    (k_law_orders : PySem.W.keepIn K (.ref f_law_orders) = true)
    (a_law_bit : PySem.W.nsIn K mainGlobals "_law_bit" = some (some (.ref f_law_bit)))
    (l_law_bit : K.lookup f_law_bit = some ⟨oc_law_bit, od_law_bit, .func (PySem.W.fnOf "_law_bit" "_law_bit" (defArgs st__law_bit) (defBody st__law_bit) (defScope st__law_bit) .none kV_law_bit dc_law_bit pm_law_bit an_law_bit cd_law_bit ct_law_bit), sl_law_bit⟩)
    (c_law_bit : PySem.W.codeIn K cd_law_bit "_law_bit" = true)
    (k_law_bit : PySem.W.keepIn K (.ref f_law_bit) = true)
    (a_law_worths : PySem.W.nsIn K mainGlobals "_law_worths" = some (some (.ref f_law_worths)))
    (l_law_worths : K.lookup f_law_worths = some ⟨oc_law_worths, od_law_worths, .func (PySem.W.fnOf "_law_worths" "_law_worths" (defArgs st__law_worths) (defBody st__law_worths) (defScope st__law_worths) .none kV_law_worths dc_law_worths pm_law_worths an_law_worths cd_law_worths ct_law_worths), sl_law_worths⟩)
    (c_law_worths : PySem.W.codeIn K cd_law_worths "_law_worths" = true)
    (k_law_worths : PySem.W.keepIn K (.ref f_law_worths) = true)
    (a_law_brought : PySem.W.nsIn K mainGlobals "_law_brought" = some (some (.ref f_law_brought)))
    (l_law_brought : K.lookup f_law_brought = some ⟨oc_law_brought, od_law_brought, .func (PySem.W.fnOf "_law_brought" "_law_brought" (defArgs st__law_brought) (defBody st__law_brought) (defScope st__law_brought) .none kV_law_brought dc_law_brought pm_law_brought an_law_brought cd_law_brought ct_law_brought), sl_law_brought⟩)
    (c_law_brought : PySem.W.codeIn K cd_law_brought "_law_brought" = true)
    (k_law_brought : PySem.W.keepIn K (.ref f_law_brought) = true)
    (a_law_is_refused : PySem.W.nsIn K mainGlobals "_law_is_refused" = some (some (.ref f_law_is_refused)))
    (l_law_is_refused : K.lookup f_law_is_refused = some ⟨oc_law_is_refused, od_law_is_refused, .func (PySem.W.fnOf "_law_is_refused" "_law_is_refused" (defArgs st__law_is_refused) (defBody st__law_is_refused) (defScope st__law_is_refused) .none kV_law_is_refused dc_law_is_refused pm_law_is_refused an_law_is_refused cd_law_is_refused ct_law_is_refused), sl_law_is_refused⟩)
    (c_law_is_refused : PySem.W.codeIn K cd_law_is_refused "_law_is_refused" = true)
    (k_law_is_refused : PySem.W.keepIn K (.ref f_law_is_refused) = true)
    (a_law_is_right : PySem.W.nsIn K mainGlobals "_law_is_right" = some (some (.ref f_law_is_right)))
    (l_law_is_right : K.lookup f_law_is_right = some ⟨oc_law_is_right, od_law_is_right, .func (PySem.W.fnOf "_law_is_right" "_law_is_right" (defArgs st__law_is_right) (defBody st__law_is_right) (defScope st__law_is_right) .none kV_law_is_right dc_law_is_right pm_law_is_right an_law_is_right cd_law_is_right ct_law_is_right), sl_law_is_right⟩)
    (c_law_is_right : PySem.W.codeIn K cd_law_is_right "_law_is_right" = true)
    (k_law_is_right : PySem.W.keepIn K (.ref f_law_is_right) = true)
    (a_law : PySem.W.nsIn K mainGlobals "law" = some (some (.ref f_law)))
    (l_law : K.lookup f_law = some ⟨oc_law, od_law, .func (PySem.W.fnOf "law" "law" (defArgs st_law) (defBody st_law) (defScope st_law) .none kV_law dc_law pm_law an_law cd_law ct_law), sl_law⟩)
    (c_law : PySem.W.codeIn K cd_law "law" = true)
    (k_law : PySem.W.keepIn K (.ref f_law) = true)
    (a_law_hand : PySem.W.nsIn K mainGlobals "_law_hand" = some (some (.ref f_law_hand)))
    (l_law_hand : K.lookup f_law_hand = some ⟨oc_law_hand, od_law_hand, .func (PySem.W.fnOf "_law_hand" "_law_hand" (defArgs st__law_hand) (defBody st__law_hand) (defScope st__law_hand) .none kV_law_hand dc_law_hand pm_law_hand an_law_hand cd_law_hand ct_law_hand), sl_law_hand⟩)
    (c_law_hand : PySem.W.codeIn K cd_law_hand "_law_hand" = true)
    (k_law_hand : PySem.W.keepIn K (.ref f_law_hand) = true)
    (z_abs : PySem.W.nsIn K mainGlobals "abs" = some none)
    (z_all : PySem.W.nsIn K mainGlobals "all" = some none)
    (z_bool : PySem.W.nsIn K mainGlobals "bool" = some none)
    (z_enumerate : PySem.W.nsIn K mainGlobals "enumerate" = some none)
    (z_int : PySem.W.nsIn K mainGlobals "int" = some none)
    (z_isinstance : PySem.W.nsIn K mainGlobals "isinstance" = some none)
    (z_len : PySem.W.nsIn K mainGlobals "len" = some none)
    (z_list : PySem.W.nsIn K mainGlobals "list" = some none)
    (z_range : PySem.W.nsIn K mainGlobals "range" = some none)
    (z_repr : PySem.W.nsIn K mainGlobals "repr" = some none)
    (z_set : PySem.W.nsIn K mainGlobals "set" = some none)
    (z_sum : PySem.W.nsIn K mainGlobals "sum" = some none)
    (z_tuple : PySem.W.nsIn K mainGlobals "tuple" = some none)
    (z_zip : PySem.W.nsIn K mainGlobals "zip" = some none)
    (z_ValueError : PySem.W.nsIn K mainGlobals "ValueError" = some none)
    (y_MOST_PLAYERS : PySem.W.nsIn K mainGlobals "MOST_PLAYERS" = some (some (.int 4 t_MOST_PLAYERS)))
    (A_Gain : PySem.W.nsIn K mainGlobals "Gain" = some (some (.ref C_Gain)))
    (mk_Gain : PySem.W.makesIn K C_Gain = true)
    (in_Gain : PySem.W.findIn K (.ref C_Gain) "__init__" = some (some (.ref f_Gain)))
    (fi_Gain : PySem.W.isFn K (.ref f_Gain) = true)
    (kc_Gain : PySem.W.keepIn K (.ref C_Gain) = true)
    (pg_Gain : PySem.W.plainGet K C_Gain Str.empty = true)
    (hd_Gain : PySem.W.hasDictIn K C_Gain = true)
    (po_Gain : PySem.W.plainOver K C_Gain = true)
    (sa_Gain : PySem.W.findIn K (.ref C_Gain) "__setattr__" = some (some (.builtin "object.__setattr__")))
    (ca_Gain : PySem.W.findIn K (.ref C_Gain) "__class__" = some (some (.builtin "object.__class__")))
    (cm_Gain : PySem.W.mroIn K C_Gain (.type "object") = some true)
    (na_Gain_n : PySem.W.findIn K (.ref C_Gain) "n" = some none)
    (na_Gain_worths : PySem.W.findIn K (.ref C_Gain) "worths" = some none)
    (bi_Gain_NoneType : PySem.W.kitOne K (.type "NoneType") (.ref C_Gain) = some false)
    (bs_Gain_NoneType : PySem.W.subIn K (.type "NoneType") (.ref C_Gain) = some false)
    (bi_Gain_bool : PySem.W.kitOne K (.type "bool") (.ref C_Gain) = some false)
    (bs_Gain_bool : PySem.W.subIn K (.type "bool") (.ref C_Gain) = some false)
    (bi_Gain_int : PySem.W.kitOne K (.type "int") (.ref C_Gain) = some false)
    (bs_Gain_int : PySem.W.subIn K (.type "int") (.ref C_Gain) = some false)
    (bi_Gain_str : PySem.W.kitOne K (.type "str") (.ref C_Gain) = some false)
    (bs_Gain_str : PySem.W.subIn K (.type "str") (.ref C_Gain) = some false)
    (bi_Gain_tuple : PySem.W.kitOne K (.type "tuple") (.ref C_Gain) = some false)
    (bs_Gain_tuple : PySem.W.subIn K (.type "tuple") (.ref C_Gain) = some false)
    (bi_Gain_list : PySem.W.kitOne K (.type "list") (.ref C_Gain) = some false)
    (bs_Gain_list : PySem.W.subIn K (.type "list") (.ref C_Gain) = some false)
    (eq_Gain : PySem.W.findIn K (.ref C_Gain) "__eq__" = some (some (.ref f_Gain_eq)))
    (ef_Gain : PySem.W.isFn K (.ref f_Gain_eq) = true)
    (cg : PySem.W.specialIn K (.builtin "object.__class__") "__get__" = some (some (.builtin "getset_descriptor.__get__")))
    (ct : PySem.W.takesIn K (.builtin "object.__class__") = some true)
    (A_NoOrder : PySem.W.nsIn K mainGlobals "NoOrder" = some (some (.ref C_NoOrder)))
    (A_PlayError : PySem.W.nsIn K mainGlobals "PlayError" = some (some (.ref C_PlayError)))
    (xl_NoOrder : K.lookup C_NoOrder = some (excClassObj nm_NoOrder qq_NoOrder C_NoOrder NN_NoOrder bs_NoOrder bm_NoOrder true sn_NoOrder sub_NoOrder ab_NoOrder col_NoOrder dd_NoOrder m0_NoOrder m1_NoOrder m2_NoOrder m3_NoOrder m5_NoOrder "ValueError.__new__"))
    (rv_NoOrder : PySem.HandSPX.refsVE bm_NoOrder = true)
    (xs_NoOrder : PySem.W.findIn K (.ref C_NoOrder) "__setattr__" = some (some (.builtin "object.__setattr__")))
    (xe_NoOrder : PySem.W.subIn K (.ref C_NoOrder) (.type "BaseException") = some true)
    (xt_NoOrder : PySem.W.typeIn K (.ref C_NoOrder) = some (.type "type"))
    (xk_NoOrder : PySem.W.keepIn K (.ref C_NoOrder) = true)
    (xi_NoOrder : PySem.W.findIn K (.ref C_NoOrder) "__init__" = some (some (.ref f_pe)))
    (tpe : PySem.W.typeIn K (.ref f_pe) = some (.type "function"))
    (vV : PySem.W.findCls K (.type "ValueError") (.type "type") "__init__" = some (.val (.builtin "ValueError.__init__")))
    (hb_NoOrder : PySem.W.subIn K (.ref C_NoOrder) (.type "BaseException") = some true)
    (hc_NoOrder : PySem.W.isClsIn K C_NoOrder = true)
    (ht_NoOrder : PySem.W.typeIn K (.ref C_NoOrder) = some (.type "type"))
    (hm_NoOrder_NoOrder : PySem.W.subIn K (.ref C_NoOrder) (.ref C_NoOrder) = some true)
    (l_Gain : K.lookup f_Gain = some ⟨oc_Gain, od_Gain, .func (PySem.W.fnOf "__init__" "Gain.__init__" (defArgs st_Gain) (defBody st_Gain) (defScope st_Gain) .none kV_Gain dc_Gain pm_Gain an_Gain cd_Gain ct_Gain), sl_Gain⟩)
    (c_Gain : PySem.W.codeIn K cd_Gain "Gain.__init__" = true)
    (k_Gain : PySem.W.keepIn K (.ref f_Gain) = true)
    (l_Gain_eq : K.lookup f_Gain_eq = some ⟨oc_Gain_eq, od_Gain_eq, .func (PySem.W.fnOf "__eq__" "Gain.__eq__" (defArgs st_Gain_eq) (defBody st_Gain_eq) (defScope st_Gain_eq) .none kV_Gain_eq dc_Gain_eq pm_Gain_eq an_Gain_eq cd_Gain_eq ct_Gain_eq), sl_Gain_eq⟩)
    (c_Gain_eq : PySem.W.codeIn K cd_Gain_eq "Gain.__eq__" = true)
    (k_Gain_eq : PySem.W.keepIn K (.ref f_Gain_eq) = true)
    (l_pe : K.lookup f_pe = some ⟨oc_pe, od_pe, .func (PySem.W.fnOf "__init__" "PlayError.__init__" (defArgs st_pe) (defBody st_pe) (defScope st_pe) .none kV_pe dc_pe pm_pe an_pe cd_pe ct_pe), sl_pe⟩)
    (c_pe : PySem.W.codeIn K cd_pe "PlayError.__init__" = true)
    (k_pe : PySem.W.keepIn K (.ref f_pe) = true)
    : codeAny (model P w) callerA (.call (.ref fa) ⟨[.ref a], []⟩) (fun r s' => r = .ok (.ret (.bool true)) ∧ OldK S.heap s'.heap ∧ s'.os = S.os ∧ AllBare s'.gens) S := by
  obtain ⟨fd, hb, hF⟩ := all_mk (P := P) (w := w) inK nsG hfa a_is_integer l_is_integer c_is_integer k_is_integer a_is_within l_is_within c_is_within k_is_within a_is_tuple l_is_tuple c_is_tuple k_is_tuple a_is_order l_is_order c_is_order k_is_order a_orders_of l_orders_of c_orders_of k_orders_of a_lots_of l_lots_of c_lots_of k_lots_of a_divisor_of l_divisor_of c_divisor_of k_divisor_of a_lowest l_lowest c_lowest k_lowest a_number_of_lot l_number_of_lot c_number_of_lot k_number_of_lot a_raw_brings l_raw_brings c_raw_brings k_raw_brings a_brings l_brings c_brings k_brings a_shapley l_shapley c_shapley k_shapley a_dividends l_dividends c_dividends k_dividends a_is_rising l_is_rising c_is_rising k_is_rising a_swings l_swings c_swings k_swings a_law_draw l_law_draw c_law_draw k_law_draw a_law_some l_law_some c_law_some k_law_some a_law_common l_law_common c_law_common k_law_common a_law_fraction l_law_fraction c_law_fraction k_law_fraction a_law_orders l_law_orders c_law_orders k_law_orders a_law_bit l_law_bit c_law_bit k_law_bit a_law_worths l_law_worths c_law_worths k_law_worths a_law_brought l_law_brought c_law_brought k_law_brought a_law_is_refused l_law_is_refused c_law_is_refused k_law_is_refused a_law_is_right l_law_is_right c_law_is_right k_law_is_right a_law l_law c_law k_law a_law_hand l_law_hand c_law_hand k_law_hand z_abs z_all z_bool z_enumerate z_int z_isinstance z_len z_list z_range z_repr z_set z_sum z_tuple z_zip z_ValueError y_MOST_PLAYERS A_Gain mk_Gain in_Gain fi_Gain kc_Gain pg_Gain hd_Gain po_Gain sa_Gain ca_Gain cm_Gain na_Gain_n na_Gain_worths bi_Gain_NoneType bs_Gain_NoneType bi_Gain_bool bs_Gain_bool bi_Gain_int bs_Gain_int bi_Gain_str bs_Gain_str bi_Gain_tuple bs_Gain_tuple bi_Gain_list bs_Gain_list eq_Gain ef_Gain cg ct A_NoOrder A_PlayError xl_NoOrder rv_NoOrder xs_NoOrder xe_NoOrder xt_NoOrder xk_NoOrder xi_NoOrder tpe vV hb_NoOrder hc_NoOrder ht_NoOrder hm_NoOrder_NoOrder l_Gain c_Gain k_Gain l_Gain_eq c_Gain_eq k_Gain_eq l_pe c_pe k_pe
  exact law_top inK nsG nsB boots free gen0 scr intz (small_sz (by omega)) ⟨⟨rfl, by decide, by decide⟩, fun _ => rfl⟩ hF hb fun H hS => ⟨a, ns, rfl, hS, short, fun _ => rfl⟩
end DL

open PySem PySem.W PyProof.Rows
set_option maxHeartbeats 0 in
theorem PySem.Challenge.cw_playershouse_k27_whole_shares_by_all_ord_holds : PySem.Challenge.rw_playershouse_k27_whole_shares_by_all_ord.Holds := by
  w_on; o_law; k_head; (case hw => w_witness2)
  k_fill
  refine Att.attach_callB (n := 63) rfl rfl fun w s₀ s₁ mg mb fa o pm cd doc a vs ns G Y ho hd hcd hmg hobj hints hlen hbits hg => ?_
  have KX := PySem.W.kIn_of Y
  refine' DL.law_go KX G.T.g G.T.b G.T.builtins G.T.nolimit hg hobj hints hlen hmg ?a_is_integer ?l_is_integer ?c_is_integer ?k_is_integer ?a_is_within ?l_is_within ?c_is_within ?k_is_within ?a_is_tuple ?l_is_tuple ?c_is_tuple ?k_is_tuple ?a_is_order ?l_is_order ?c_is_order ?k_is_order ?a_orders_of ?l_orders_of ?c_orders_of ?k_orders_of ?a_lots_of ?l_lots_of ?c_lots_of ?k_lots_of ?a_divisor_of ?l_divisor_of ?c_divisor_of ?k_divisor_of ?a_lowest ?l_lowest ?c_lowest ?k_lowest ?a_number_of_lot ?l_number_of_lot ?c_number_of_lot ?k_number_of_lot ?a_raw_brings ?l_raw_brings ?c_raw_brings ?k_raw_brings ?a_brings ?l_brings ?c_brings ?k_brings ?a_shapley ?l_shapley ?c_shapley ?k_shapley ?a_dividends ?l_dividends ?c_dividends ?k_dividends ?a_is_rising ?l_is_rising ?c_is_rising ?k_is_rising ?a_swings ?l_swings ?c_swings ?k_swings ?a_law_draw ?l_law_draw ?c_law_draw ?k_law_draw ?a_law_some ?l_law_some ?c_law_some ?k_law_some ?a_law_common ?l_law_common ?c_law_common ?k_law_common ?a_law_fraction ?l_law_fraction ?c_law_fraction ?k_law_fraction ?a_law_orders ?l_law_orders ?c_law_orders ?k_law_orders ?a_law_bit ?l_law_bit ?c_law_bit ?k_law_bit ?a_law_worths ?l_law_worths ?c_law_worths ?k_law_worths ?a_law_brought ?l_law_brought ?c_law_brought ?k_law_brought ?a_law_is_refused ?l_law_is_refused ?c_law_is_refused ?k_law_is_refused ?a_law_is_right ?l_law_is_right ?c_law_is_right ?k_law_is_right ?a_law ?l_law ?c_law ?k_law ?a_law_hand ?l_law_hand ?c_law_hand ?k_law_hand ?z_abs ?z_all ?z_bool ?z_enumerate ?z_int ?z_isinstance ?z_len ?z_list ?z_range ?z_repr ?z_set ?z_sum ?z_tuple ?z_zip ?z_ValueError ?y_MOST_PLAYERS ?A_Gain ?mk_Gain ?in_Gain ?fi_Gain ?kc_Gain ?pg_Gain ?hd_Gain ?po_Gain ?sa_Gain ?ca_Gain ?cm_Gain ?na_Gain_n ?na_Gain_worths ?bi_Gain_NoneType ?bs_Gain_NoneType ?bi_Gain_bool ?bs_Gain_bool ?bi_Gain_int ?bs_Gain_int ?bi_Gain_str ?bs_Gain_str ?bi_Gain_tuple ?bs_Gain_tuple ?bi_Gain_list ?bs_Gain_list ?eq_Gain ?ef_Gain ?cg ?ct ?A_NoOrder ?A_PlayError ?xl_NoOrder ?rv_NoOrder ?xs_NoOrder ?xe_NoOrder ?xt_NoOrder ?xk_NoOrder ?xi_NoOrder ?tpe ?vV ?hb_NoOrder ?hc_NoOrder ?ht_NoOrder ?hm_NoOrder_NoOrder ?l_Gain ?c_Gain ?k_Gain ?l_Gain_eq ?c_Gain_eq ?k_Gain_eq ?l_pe ?c_pe ?k_pe
  (case a_is_integer => k_is)
  (case l_is_integer => k_is)
  (case c_is_integer => k_is)
  (case k_is_integer => k_is)
  (case a_is_within => k_is)
  (case l_is_within => k_is)
  (case c_is_within => k_is)
  (case k_is_within => k_is)
  (case a_is_tuple => k_is)
  (case l_is_tuple => k_is)
  (case c_is_tuple => k_is)
  (case k_is_tuple => k_is)
  (case a_is_order => k_is)
  (case l_is_order => k_is)
  (case c_is_order => k_is)
  (case k_is_order => k_is)
  (case a_orders_of => k_is)
  (case l_orders_of => k_is)
  (case c_orders_of => k_is)
  (case k_orders_of => k_is)
  (case a_lots_of => k_is)
  (case l_lots_of => k_is)
  (case c_lots_of => k_is)
  (case k_lots_of => k_is)
  (case a_divisor_of => k_is)
  (case l_divisor_of => k_is)
  (case c_divisor_of => k_is)
  (case k_divisor_of => k_is)
  (case a_lowest => k_is)
  (case l_lowest => k_is)
  (case c_lowest => k_is)
  (case k_lowest => k_is)
  (case a_number_of_lot => k_is)
  (case l_number_of_lot => k_is)
  (case c_number_of_lot => k_is)
  (case k_number_of_lot => k_is)
  (case a_raw_brings => k_is)
  (case l_raw_brings => k_is)
  (case c_raw_brings => k_is)
  (case k_raw_brings => k_is)
  (case a_brings => k_is)
  (case l_brings => k_is)
  (case c_brings => k_is)
  (case k_brings => k_is)
  (case a_shapley => k_is)
  (case l_shapley => k_is)
  (case c_shapley => k_is)
  (case k_shapley => k_is)
  (case a_dividends => k_is)
  (case l_dividends => k_is)
  (case c_dividends => k_is)
  (case k_dividends => k_is)
  (case a_is_rising => k_is)
  (case l_is_rising => k_is)
  (case c_is_rising => k_is)
  (case k_is_rising => k_is)
  (case a_swings => k_is)
  (case l_swings => k_is)
  (case c_swings => k_is)
  (case k_swings => k_is)
  (case a_law_draw => k_is)
  (case l_law_draw => k_is)
  (case c_law_draw => k_is)
  (case k_law_draw => k_is)
  (case a_law_some => k_is)
  (case l_law_some => k_is)
  (case c_law_some => k_is)
  (case k_law_some => k_is)
  (case a_law_common => k_is)
  (case l_law_common => k_is)
  (case c_law_common => k_is)
  (case k_law_common => k_is)
  (case a_law_fraction => k_is)
  (case l_law_fraction => k_is)
  (case c_law_fraction => k_is)
  (case k_law_fraction => k_is)
  (case a_law_orders => k_is)
  (case l_law_orders => k_is)
  (case c_law_orders => k_is)
  (case k_law_orders => k_is)
  (case a_law_bit => k_is)
  (case l_law_bit => k_is)
  (case c_law_bit => k_is)
  (case k_law_bit => k_is)
  (case a_law_worths => k_is)
  (case l_law_worths => k_is)
  (case c_law_worths => k_is)
  (case k_law_worths => k_is)
  (case a_law_brought => k_is)
  (case l_law_brought => k_is)
  (case c_law_brought => k_is)
  (case k_law_brought => k_is)
  (case a_law_is_refused => k_is)
  (case l_law_is_refused => k_is)
  (case c_law_is_refused => k_is)
  (case k_law_is_refused => k_is)
  (case a_law_is_right => k_is)
  (case l_law_is_right => k_is)
  (case c_law_is_right => k_is)
  (case k_law_is_right => k_is)
  (case a_law => k_is)
  (case l_law => k_is)
  (case c_law => k_is)
  (case k_law => k_is)
  (case a_law_hand => k_is)
  (case l_law_hand => k_is)
  (case c_law_hand => k_is)
  (case k_law_hand => k_is)
  (case z_abs => k_is)
  (case z_all => k_is)
  (case z_bool => k_is)
  (case z_enumerate => k_is)
  (case z_int => k_is)
  (case z_isinstance => k_is)
  (case z_len => k_is)
  (case z_list => k_is)
  (case z_range => k_is)
  (case z_repr => k_is)
  (case z_set => k_is)
  (case z_sum => k_is)
  (case z_tuple => k_is)
  (case z_zip => k_is)
  (case z_ValueError => k_is)
  (case y_MOST_PLAYERS => k_is)
  (case A_Gain => k_is)
  (case mk_Gain => k_is)
  (case in_Gain => k_is)
  (case fi_Gain => k_is)
  (case kc_Gain => k_is)
  (case pg_Gain => k_is)
  (case hd_Gain => k_is)
  (case po_Gain => k_is)
  (case sa_Gain => k_is)
  (case ca_Gain => k_is)
  (case cm_Gain => k_is)
  (case na_Gain_n => k_is)
  (case na_Gain_worths => k_is)
  (case bi_Gain_NoneType => first | rfl | kernel_rfl | decide +kernel | k_is)
  (case bs_Gain_NoneType => k_is)
  (case bi_Gain_bool => first | rfl | kernel_rfl | decide +kernel | k_is)
  (case bs_Gain_bool => k_is)
  (case bi_Gain_int => first | rfl | kernel_rfl | decide +kernel | k_is)
  (case bs_Gain_int => k_is)
  (case bi_Gain_str => first | rfl | kernel_rfl | decide +kernel | k_is)
  (case bs_Gain_str => k_is)
  (case bi_Gain_tuple => first | rfl | kernel_rfl | decide +kernel | k_is)
  (case bs_Gain_tuple => k_is)
  (case bi_Gain_list => first | rfl | kernel_rfl | decide +kernel | k_is)
  (case bs_Gain_list => k_is)
  (case eq_Gain => k_is)
  (case ef_Gain => k_is)
  (case cg => k_is)
  (case ct => k_is)
  (case A_NoOrder => k_is)
  (case A_PlayError => k_is)
  (case xl_NoOrder => k_is)
  (case rv_NoOrder => first | rfl | kernel_rfl | decide +kernel | k_is)
  (case xs_NoOrder => k_is)
  (case xe_NoOrder => k_is)
  (case xt_NoOrder => k_is)
  (case xk_NoOrder => k_is)
  (case xi_NoOrder => k_is)
  (case tpe => k_is)
  (case vV => k_is)
  (case hb_NoOrder => k_is)
  (case hc_NoOrder => k_is)
  (case ht_NoOrder => k_is)
  (case hm_NoOrder_NoOrder => k_is)
  (case l_Gain => k_is)
  (case c_Gain => k_is)
  (case k_Gain => k_is)
  (case l_Gain_eq => k_is)
  (case c_Gain_eq => k_is)
  (case k_Gain_eq => k_is)
  (case l_pe => k_is)
  (case c_pe => k_is)
  (case k_pe => k_is)
