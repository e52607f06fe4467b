import PyProof.Rows.All
import Wide.All
import OpenK.AllK
import Wide.FinOn
import HandS.ForMost
import HandS.Codes
import HandS.Conv
import HandS.TupAny
import HandS.IsInst
import HandS.Deep
import HandS.Flow
import HandS.SetFor
import HandS.SetKeys
import PySem.Challenge.RW_playershouse_k53_whole_kings_and_champio
import HandS.Lambda
import HandS.ExcInit
import HandS.ExcField
import HandS.ClsMeth
import HandS.EndTab
set_option Elab.async false
set_option linter.all false
set_option maxRecDepth 100000
set_option maxHeartbeats 4000000
/-! DL0: data of any depth over the layer HandS: what a value stands for, and the state's two parts. -/
namespace DL
open PySem PySem.Spec PyProof.Rows L2

/-- data: what a value stands for, without addresses (tk: an object told by its address) -/
inductive D where
  | non
  | bl (b : Bool)
  | int (i : Int)
  | str (x : Str)
  | tup (xs : List D)
  | lst (xs : List D)
  | ins (c : Str) (fs : List (Str × D))
  | tk (a : Addr)
  | ty (n : String)
  | cls (c : Str)

section
variable (K : PySem.W.Frag) (mg : Str → Option Value) (F : Hp)
mutual
inductive Is : V → D → Prop
  | non : Is .non .non
  | bl (b : Bool) : Is (.bl b) (.bl b)
  | int (i : Int) : Is (.int i) (.int i)
  | str (x : Str) : Is (.str x) (.str x)
  | tup {a : Addr} {xs : List V} {ds : List D} : SqT K F a xs → IsA xs ds → Is (.ref a) (.tup ds)
  | lst {a : Addr} {xs : List V} {ds : List D} : F a = some (.lst xs) → IsA xs ds → Is (.ref a) (.lst ds)
  | ins {a C dx : Addr} {c : Str} {fs : List (Str × V)} {gs : List (Str × D)} : mg c = some (.ref C) → F a = some (.ins C dx fs) → IsF fs gs → Is (.ref a) (.ins c gs)
  | tk (a : Addr) : Is (.ref a) (.tk a)
  | ty (n : String) : Is (.ty n) (.ty n)
  | cls {c : Str} {C : Addr} : mg c = some (.ref C) → Is (.ref C) (.cls c)
inductive IsA : List V → List D → Prop
  | nil : IsA [] []
  | cons {v : V} {vs : List V} {d : D} {ds : List D} : Is v d → IsA vs ds → IsA (v :: vs) (d :: ds)
inductive IsF : List (Str × V) → List (Str × D) → Prop
  | nil : IsF [] []
  | cons {x : Str} {v : V} {vs : List (Str × V)} {d : D} {ds : List (Str × D)} : Is v d → IsF vs ds → IsF ((x, v) :: vs) ((x, d) :: ds)
end
end

section
variable {K : PySem.W.Frag} {mg : Str → Option Value} {F F' : Hp}
theorem same_seqT {H H' : Hp} {a : Addr} {xs : List V} (e : Same H H') (h : SqT K H a xs) : SqT K H' a xs := by
  rcases h with (h | ⟨o, h⟩) | h
  · exact .inl (.inl (e _ _ h))
  · exact .inl (.inr ⟨o, e _ _ h⟩)
  · exact .inr h
mutual
theorem Is.mono (e : Same F F') : ∀ {v : V} {d : D}, Is K mg F v d → Is K mg F' v d
  | _, _, .non => .non
  | _, _, .bl b => .bl b
  | _, _, .int i => .int i
  | _, _, .str x => .str x
  | _, _, .tup h t => .tup (same_seqT e h) (IsA.mono e t)
  | _, _, .lst h t => .lst (e _ _ h) (IsA.mono e t)
  | _, _, .ins m h t => .ins m (e _ _ h) (IsF.mono e t)
  | _, _, .tk a => .tk a
  | _, _, .ty a => .ty a
  | _, _, .cls h => .cls h
theorem IsA.mono (e : Same F F') : ∀ {vs : List V} {ds : List D}, IsA K mg F vs ds → IsA K mg F' vs ds
  | _, _, .nil => .nil
  | _, _, .cons h t => .cons (Is.mono e h) (IsA.mono e t)
theorem IsF.mono (e : Same F F') : ∀ {vs : List (Str × V)} {ds : List (Str × D)}, IsF K mg F vs ds → IsF K mg F' vs ds
  | _, _, .nil => .nil
  | _, _, .cons h t => .cons (Is.mono e h) (IsF.mono e t)
end
theorem IsA.length : ∀ {vs : List V} {ds : List D}, IsA K mg F vs ds → vs.length = ds.length
  | _, _, .nil => rfl
  | _, _, .cons _ t => congrArg (· + 1) (IsA.length t)
theorem IsA.get : ∀ {vs : List V} {ds : List D} {i : Nat} {d : D}, IsA K mg F vs ds → ds[i]? = some d → ∃ v, vs[i]? = some v ∧ Is K mg F v d
  | _, _, _, _, .nil, e => by simp at e
  | _, _, 0, _, .cons h _, e => by
    simp at e
    subst e
    exact ⟨_, rfl, h⟩
  | _, _, i + 1, _, .cons _ t, e => by
    obtain ⟨v, h1, h2⟩ := IsA.get (i := i) t (by simpa using e)
    exact ⟨v, by simpa using h1, h2⟩
theorem IsA.append : ∀ {vs ws : List V} {ds es : List D}, IsA K mg F vs ds → IsA K mg F ws es → IsA K mg F (vs ++ ws) (ds ++ es)
  | _, _, _, _, .nil, t => t
  | _, _, _, _, .cons h t, s => .cons h (IsA.append t s)
theorem IsA.take : ∀ {vs : List V} {ds : List D} (n : Nat), IsA K mg F vs ds → IsA K mg F (vs.take n) (ds.take n)
  | _, _, 0, _ => .nil
  | _, _, _ + 1, .nil => .nil
  | _, _, n + 1, .cons h t => .cons h (IsA.take n t)
theorem IsA.drop : ∀ {vs : List V} {ds : List D} (n : Nat), IsA K mg F vs ds → IsA K mg F (vs.drop n) (ds.drop n)
  | _, _, 0, h => h
  | _, _, _ + 1, .nil => .nil
  | _, _, n + 1, .cons _ t => IsA.drop n t
theorem IsA.set : ∀ {vs : List V} {ds : List D} {v : V} {d : D} (i : Nat), Is K mg F v d → IsA K mg F vs ds → IsA K mg F (vs.set i v) (ds.set i d)
  | _, _, _, _, _, _, .nil => .nil
  | _, _, _, _, 0, h, .cons _ t => .cons h t
  | _, _, _, _, i + 1, h, .cons q t => .cons q (IsA.set i h t)
theorem IsA.eraseIdx : ∀ {vs : List V} {ds : List D} (i : Nat), IsA K mg F vs ds → IsA K mg F (vs.eraseIdx i) (ds.eraseIdx i)
  | _, _, _, .nil => .nil
  | _, _, 0, .cons _ t => t
  | _, _, i + 1, .cons q t => .cons q (IsA.eraseIdx i t)
theorem IsA.reverse {vs : List V} {ds : List D} (h : IsA K mg F vs ds) : IsA K mg F vs.reverse ds.reverse := by
  induction h using IsA.rec (motive_1 := fun _ _ _ => True) (motive_3 := fun _ _ _ => True) with
  | nil => exact .nil
  | cons h t _ ih =>
    rw [List.reverse_cons, List.reverse_cons]
    exact IsA.append ih (.cons h .nil)
  | _ => trivial
theorem IsF.lookup : ∀ {vs : List (Str × V)} {ds : List (Str × D)} {f : Str} {d : D}, IsF K mg F vs ds → ds.lookup f = some d → ∃ v, vs.lookup f = some v ∧ Is K mg F v d
  | _, _, _, _, .nil, e => by simp at e
  | _, _, f, _, .cons (x := x) h t, e => by
    rw [List.lookup_cons] at e ⊢
    cases hx : f == x with
    | true =>
      rw [hx] at e
      cases e
      exact ⟨_, rfl, h⟩
    | false =>
      rw [hx] at e
      exact IsF.lookup t e
end

/-! ### flat data by what stands -/
section
variable {K : PySem.W.Frag} {mg : Str → Option Value} {F : Hp} {v : V}
theorem Is.int_inv {i : Int} (h : Is K mg F v (.int i)) : v = .int i := by cases h; rfl
theorem Is.bl_inv {b : Bool} (h : Is K mg F v (.bl b)) : v = .bl b := by cases h; rfl
theorem Is.non_inv (h : Is K mg F v .non) : v = .non := by cases h; rfl
theorem Is.str_inv {x : Str} (h : Is K mg F v (.str x)) : v = .str x := by cases h; rfl
theorem Is.tk_inv {a : Addr} (h : Is K mg F v (.tk a)) : v = .ref a := by cases h; rfl
theorem Is.ty_inv {a : String} (h : Is K mg F v (.ty a)) : v = .ty a := by cases h; rfl
theorem Is.cls_inv {c : Str} (h : Is K mg F v (.cls c)) : ∃ C, v = .ref C ∧ mg c = some (.ref C) := by
  cases h with
  | cls h => exact ⟨_, rfl, h⟩
theorem Is.tup_inv {ds : List D} (h : Is K mg F v (.tup ds)) : ∃ a xs, v = .ref a ∧ SqT K F a xs ∧ IsA K mg F xs ds := by
  cases h with
  | tup h t => exact ⟨_, _, rfl, h, t⟩
theorem Is.lst_inv {ds : List D} (h : Is K mg F v (.lst ds)) : ∃ a xs, v = .ref a ∧ F a = some (.lst xs) ∧ IsA K mg F xs ds := by
  cases h with
  | lst h t => exact ⟨_, _, rfl, h, t⟩
theorem Is.ins_inv {c : Str} {gs : List (Str × D)} (h : Is K mg F v (.ins c gs)) : ∃ a C dx fs, v = .ref a ∧ mg c = some (.ref C) ∧ F a = some (.ins C dx fs) ∧ IsF K mg F fs gs := by
  cases h with
  | ins m h t => exact ⟨_, _, _, _, rfl, m, h, t⟩
theorem IsA.nil_inv {vs : List V} (h : IsA K mg F vs []) : vs = [] := by cases h; rfl
theorem IsA.cons_inv {vs : List V} {d : D} {ds : List D} (h : IsA K mg F vs (d :: ds)) : ∃ v r, vs = v :: r ∧ Is K mg F v d ∧ IsA K mg F r ds := by
  cases h with
  | cons h t => exact ⟨_, _, rfl, h, t⟩
theorem IsA.one_inv {vs : List V} {d : D} (h : IsA K mg F vs [d]) : ∃ v, vs = [v] ∧ Is K mg F v d := by
  obtain ⟨v, r, rfl, h1, t⟩ := h.cons_inv
  cases t.nil_inv
  exact ⟨v, rfl, h1⟩
theorem IsA.two_inv {vs : List V} {d e : D} (h : IsA K mg F vs [d, e]) : ∃ v w, vs = [v, w] ∧ Is K mg F v d ∧ Is K mg F w e := by
  obtain ⟨v, r, rfl, h1, t⟩ := h.cons_inv
  obtain ⟨w, rfl, h2⟩ := t.one_inv
  exact ⟨v, w, rfl, h1, h2⟩
theorem IsA.ints : ∀ {ns : List Int} {vs : List V}, IsA K mg F vs (ns.map D.int) → vs = ns.map V.int
  | [], _, h => h.nil_inv
  | n :: ns, _, h => by
    obtain ⟨v, r, rfl, h1, t⟩ := IsA.cons_inv (h : IsA K mg F _ (D.int n :: ns.map D.int))
    rw [h1.int_inv, IsA.ints t]
    rfl
theorem IsA.bls : ∀ {ns : List Bool} {vs : List V}, IsA K mg F vs (ns.map D.bl) → vs = ns.map V.bl
  | [], _, h => h.nil_inv
  | n :: ns, _, h => by
    obtain ⟨v, r, rfl, h1, t⟩ := IsA.cons_inv (h : IsA K mg F _ (D.bl n :: ns.map D.bl))
    rw [h1.bl_inv, IsA.bls t]
    rfl
theorem IsA.strs : ∀ {ns : List Str} {vs : List V}, IsA K mg F vs (ns.map D.str) → vs = ns.map V.str
  | [], _, h => h.nil_inv
  | n :: ns, _, h => by
    obtain ⟨v, r, rfl, h1, t⟩ := IsA.cons_inv (h : IsA K mg F _ (D.str n :: ns.map D.str))
    rw [h1.str_inv, IsA.strs t]
    rfl
theorem isA_ints : ∀ {ns : List Int}, IsA K mg F (ns.map V.int) (ns.map D.int)
  | [] => .nil
  | n :: ns => .cons (.int n) isA_ints
end

/-! ### data of the library's own kind (no instances, no addresses) -/
mutual
def toPy : D → Option PyData
  | .non => some .none
  | .bl b => some (.bool b)
  | .int i => some (.int i)
  | .str x => some (.str x)
  | .tup xs => (toPyA xs).map .tuple
  | .lst xs => (toPyA xs).map .list
  | .ins _ _ => none
  | .tk _ => none
  | .ty _ => none
  | .cls _ => none
def toPyA : List D → Option (List PyData)
  | [] => some []
  | d :: ds => match toPy d, toPyA ds with
    | some p, some ps => some (p :: ps)
    | _, _ => none
end
section
variable {K : PySem.W.Frag} {mg : Str → Option Value} {F : Hp}
mutual
theorem Is.toDp : ∀ (d : D) (v : V) (p : PyData), Is K mg F v d → toPy d = some p → Dp K F v p
  | .non, _, _, h, e => by
    cases h
    cases e
    exact .non
  | .bl b, _, _, h, e => by
    cases h
    cases e
    exact .bl b
  | .int i, _, _, h, e => by
    cases h
    cases e
    exact .int i
  | .str x, _, _, h, e => by
    cases h
    cases e
    exact .str x
  | .tup ds, _, _, h, e => by
    obtain ⟨a, xs, rfl, hs, ha⟩ := h.tup_inv
    simp only [toPy, Option.map_eq_some_iff] at e
    obtain ⟨ps, e1, rfl⟩ := e
    exact .tup hs (IsA.toDp ds xs ps ha e1)
  | .lst ds, _, _, h, e => by
    obtain ⟨a, xs, rfl, hs, ha⟩ := h.lst_inv
    simp only [toPy, Option.map_eq_some_iff] at e
    obtain ⟨ps, e1, rfl⟩ := e
    exact .lst (SqL.of hs) (IsA.toDp ds xs ps ha e1)
  | .ins _ _, _, _, _, e => by simp [toPy] at e
  | .tk _, _, _, _, e => by simp [toPy] at e
  | .ty _, _, _, _, e => by simp [toPy] at e
  | .cls _, _, _, _, e => by simp [toPy] at e
theorem IsA.toDp : ∀ (ds : List D) (vs : List V) (ps : List PyData), IsA K mg F vs ds → toPyA ds = some ps → DpAll K F vs ps
  | [], _, _, h, e => by
    cases h.nil_inv
    simp [toPyA] at e
    subst e
    exact .nil
  | d :: ds, _, _, h, e => by
    obtain ⟨v, r, rfl, h1, t⟩ := h.cons_inv
    unfold toPyA at e
    split at e
    · rename_i p ps e1 e2
      cases e
      exact .cons (Is.toDp d v p h1 e1) (IsA.toDp ds r ps t e2)
    · cases e
end
mutual
theorem dp_mono {H H' : Hp} (e : Same H H') : ∀ {v : V} {p : PyData}, Dp K H v p → Dp K H' v p
  | _, _, .non => .non
  | _, _, .bl b => .bl b
  | _, _, .int i => .int i
  | _, _, .str x => .str x
  | _, _, .lst h t => .lst (e.seq h) (dpA_mono e t)
  | _, _, .tup h t => .tup (same_seqT e h) (dpA_mono e t)
theorem dpA_mono {H H' : Hp} (e : Same H H') : ∀ {vs : List V} {ps : List PyData}, DpAll K H vs ps → DpAll K H' vs ps
  | _, _, .nil => .nil
  | _, _, .cons h t => .cons (dp_mono e h) (dpA_mono e t)
end
end

/-! ### the state: F what never changes, pr what others own, J's own things -/
/-- a thing with a state of its own (the law's source of numbers): where it lies, what holds of it, its object's address -/
structure GJ where
  mt : Addr → Prop
  inv : Hp → Hp → Prop
  at_ : ∀ F H b, inv F H → mt b → H b ≠ none
  stay : ∀ F H F' H', inv F H → Same F F' → (∀ b, mt b → H' b = H b) → (∀ b φ, H b = some (.ext φ) → H' b = some (.ext φ)) → inv F' H'
/-- nothing of that kind -/
def J0 : GJ := ⟨fun _ => False, fun _ _ => True, fun _ _ _ _ h => h.elim, fun _ _ _ _ _ _ _ _ => trivial⟩

/-- no table of code objects (these grow where a lambda is made) -/
def NT (o : HO) : Prop := ∀ ps, o ≠ .tbl ps
theorem nt_lst {vs : List V} : NT (.lst vs) := fun _ z => by cases z
theorem nt_tup {vs : List V} : NT (.tup vs) := fun _ z => by cases z
theorem nt_dK {vs : List (Key × V)} : NT (.dK vs) := fun _ z => by cases z
theorem nt_dT {vs : List (List Key × V)} : NT (.dT vs) := fun _ z => by cases z
structure St8 (J : GJ) (pr F H : Hp) : Prop where
  sub : Same F H
  prk : ∀ b o, pr b = some o → H b = some o ∧ F b = none
  inv : J.inv F H
  mtF : ∀ b, J.mt b → F b = none ∧ pr b = none
  nt : ∀ b o, F b = some o ∨ pr b = some o → NT o
/-- from one state to a later one: what stood stands (but J's), nothing of it was laid down as unchanging -/
structure Stp (J : GJ) (pr F H F' H' : Hp) : Prop where
  st : St8 J pr F' H'
  ff : Same F F'
  hh : ∀ b o, ¬ J.mt b → NT o → H b = some o → H' b = some o
  nf : ∀ b o, NT o → H b = some o → F b = none → F' b = none
section
variable {J : GJ} {pr F H F' H' F2 H2 : Hp}
theorem Stp.refl (s : St8 J pr F H) : Stp J pr F H F H := ⟨s, Same.refl _, fun _ _ _ _ h => h, fun _ _ _ _ h => h⟩
theorem Stp.trans (a : Stp J pr F H F' H') (ha : St8 J pr F H) (b : Stp J pr F' H' F2 H2) : Stp J pr F H F2 H2 :=
  ⟨b.st, a.ff.trans b.ff, fun c o m t h => b.hh c o m t (a.hh c o m t h), fun c o t h n => by
    by_cases m : J.mt c
    · exact (b.st.mtF c m).1
    · exact b.nf c o t (a.hh c o m t h) (a.nf c o t h n)⟩
/-- a new object is laid down, never to change -/
theorem St8.laid {p : Addr} {o : HO} (s : St8 J pr F H) (n : H p = none) (ho : NT o) : Stp J pr F H (upd F p o) (upd H p o) := by
  have nF : F p = none := s.sub.free n
  refine ⟨⟨fun b x h => ?_, fun b x h => ?_, J.stay F H _ _ s.inv (fun b x h => (upd_ne (ne_of_none h nF)).trans h) (fun b m => upd_ne ?_) (fun b φ h => (upd_ne (ne_of_none h n)).trans h), fun b m => ?_, fun b x h => ?_⟩, fun b x h => ?_, fun b x _ _ h => ?_, fun b x _ h f => ?_⟩
  · by_cases e : b = p
    · subst e
      rw [upd_same] at h ⊢
      exact h
    · rw [upd_ne e] at h ⊢
      exact s.sub b x h
  · obtain ⟨h1, h2⟩ := s.prk b x h
    have e : b ≠ p := ne_of_none h1 n
    exact ⟨by rw [upd_ne e]; exact h1, by rw [upd_ne e]; exact h2⟩
  · intro e
    subst e
    exact J.at_ F H b s.inv m n
  · have e : b ≠ p := fun e => by
      subst e
      exact J.at_ F H b s.inv m n
    exact ⟨by rw [upd_ne e]; exact (s.mtF b m).1, (s.mtF b m).2⟩
  · by_cases e : b = p
    · subst e
      rcases h with h | h
      · rw [upd_same] at h
        cases h
        exact ho
      · exact s.nt b x (.inr h)
    · rw [upd_ne e] at h
      exact s.nt b x h
  · rw [upd_ne (ne_of_none h nF)]
    exact h
  · rw [upd_ne (ne_of_none h n)]
    exact h
  · rw [upd_ne (ne_of_none h n)]
    exact f
/-- a new object is made, that somebody owns -/
theorem St8.made {p : Addr} {o : HO} (s : St8 J pr F H) (n : H p = none) : Stp J pr F H F (upd H p o) := by
  refine ⟨⟨fun b x h => ?_, fun b x h => ?_, J.stay F H _ _ s.inv (Same.refl _) (fun b m => upd_ne ?_) (fun b φ h => (upd_ne (ne_of_none h n)).trans h), s.mtF, s.nt⟩, Same.refl _, fun b x _ _ h => ?_, fun b x _ h f => f⟩
  · have h' := s.sub b x h
    rw [upd_ne (ne_of_none h' n)]
    exact h'
  · obtain ⟨h1, h2⟩ := s.prk b x h
    exact ⟨by rw [upd_ne (ne_of_none h1 n)]; exact h1, h2⟩
  · intro e
    subst e
    exact J.at_ F H b s.inv m n
  · rw [upd_ne (ne_of_none h n)]
    exact h
/-- an owned object is written -/
theorem St8.write {p : Addr} {o : HO} (s : St8 J pr F H) (f : F p = none) (q : pr p = none) (m : ¬ J.mt p) (hx : ∀ φ, H p ≠ some (.ext φ)) : St8 J pr F (upd H p o) := by
  refine ⟨fun b x h => ?_, fun b x h => ?_, J.stay F H _ _ s.inv (Same.refl _) (fun b m' => upd_ne ?_) (fun b φ h => (upd_ne (fun z => by subst z; exact hx φ h)).trans h), s.mtF, s.nt⟩
  · rw [upd_ne (ne_of_none h f)]
    exact s.sub b x h
  · rw [upd_ne (ne_of_none h q)]
    exact s.prk b x h
  · intro e
    subst e
    exact m m'
/-- an owned object is laid down, never to change from now on -/
theorem St8.freeze {p : Addr} {o : HO} (s : St8 J pr F H) (h : H p = some o) (f : F p = none) (q : pr p = none) (m : ¬ J.mt p) (ho : NT o) : St8 J pr (upd F p o) H := by
  refine ⟨fun b x e => ?_, fun b x e => ?_, J.stay F H _ _ s.inv (fun b x e => (upd_ne (ne_of_none e f)).trans e) (fun _ _ => rfl) (fun _ _ h => h), fun b m' => ?_, fun b x e => ?_⟩
  · by_cases eb : b = p
    · subst eb
      rw [upd_same] at e
      cases e
      exact h
    · rw [upd_ne eb] at e
      exact s.sub b x e
  · rw [upd_ne (ne_of_none e q)]
    exact s.prk b x e
  · have e : b ≠ p := fun e => by
      subst e
      exact m m'
    rw [upd_ne e]
    exact s.mtF b m'
  · by_cases eb : b = p
    · subst eb
      rcases e with e | e
      · rw [upd_same] at e
        cases e
        exact ho
      · exact s.nt b x (.inr e)
    · rw [upd_ne eb] at e
      exact s.nt b x e
theorem same_upd' {F : Hp} {p : Addr} {o : HO} (f : F p = none) : Same F (upd F p o) := fun b x h => by
  rw [upd_ne (ne_of_none h f)]
  exact h
end
end DL

/-! DL1: operations by data. -/
namespace DL
open PySem PySem.Spec PyProof.Rows L2

abbrev Prim := List D → (D → Prop) → Prop

section
variable (K : PySem.W.Frag) (mg : Str → Option Value) (F H : Hp)
/-- data, or a list as it stands at the moment -/
def IsB (v : V) (d : D) : Prop := Is K mg F v d ∨ ∃ (p : Addr) (vs : List V) (xs : List D), v = .ref p ∧ d = .lst xs ∧ H p = some (.lst vs) ∧ IsA K mg F vs xs
inductive IsBA : List V → List D → Prop
  | nil : IsBA [] []
  | cons {v : V} {vs : List V} {d : D} {ds : List D} : IsB K mg F H v d → IsBA vs ds → IsBA (v :: vs) (d :: ds)
end
section
variable {K : PySem.W.Frag} {mg : Str → Option Value} {F H : Hp} {v : V} {vs : List V}
theorem IsA.b : ∀ {vs : List V} {ds : List D}, IsA K mg F vs ds → IsBA K mg F H vs ds
  | _, _, .nil => .nil
  | _, _, .cons h t => .cons (.inl h) (IsA.b t)
theorem IsBA.nil_inv (h : IsBA K mg F H vs []) : vs = [] := by cases h; rfl
theorem IsBA.cons_inv {d : D} {ds : List D} (h : IsBA K mg F H vs (d :: ds)) : ∃ v r, vs = v :: r ∧ IsB K mg F H v d ∧ IsBA K mg F H r ds := by
  cases h with
  | cons h t => exact ⟨_, _, rfl, h, t⟩
theorem IsBA.one_inv {d : D} (h : IsBA K mg F H vs [d]) : ∃ v, vs = [v] ∧ IsB K mg F H v d := by
  obtain ⟨v, r, rfl, h1, t⟩ := h.cons_inv
  cases t.nil_inv
  exact ⟨v, rfl, h1⟩
theorem IsBA.two_inv {d e : D} (h : IsBA K mg F H vs [d, e]) : ∃ v w, vs = [v, w] ∧ IsB K mg F H v d ∧ IsB K mg F H w e := by
  obtain ⟨v, r, rfl, h1, t⟩ := h.cons_inv
  obtain ⟨w, rfl, h2⟩ := t.one_inv
  exact ⟨v, w, rfl, h1, h2⟩
theorem IsB.int_inv {i : Int} (h : IsB K mg F H v (.int i)) : v = .int i := by
  rcases h with h | ⟨_, _, _, _, e, _⟩
  · exact h.int_inv
  · cases e
theorem IsB.bl_inv {i : Bool} (h : IsB K mg F H v (.bl i)) : v = .bl i := by
  rcases h with h | ⟨_, _, _, _, e, _⟩
  · exact h.bl_inv
  · cases e
theorem IsB.non_inv (h : IsB K mg F H v .non) : v = .non := by
  rcases h with h | ⟨_, _, _, _, e, _⟩
  · exact h.non_inv
  · cases e
theorem IsB.str_inv {x : Str} (h : IsB K mg F H v (.str x)) : v = .str x := by
  rcases h with h | ⟨_, _, _, _, e, _⟩
  · exact h.str_inv
  · cases e
theorem IsB.ty_inv {n : String} (h : IsB K mg F H v (.ty n)) : v = .ty n := by
  rcases h with h | ⟨_, _, _, _, e, _⟩
  · exact h.ty_inv
  · cases e
theorem IsB.tup_inv {ds : List D} (h : IsB K mg F H v (.tup ds)) : ∃ a xs, v = .ref a ∧ SqT K F a xs ∧ IsA K mg F xs ds := by
  rcases h with h | ⟨_, _, _, _, e, _⟩
  · exact h.tup_inv
  · cases e
theorem IsB.lst_inv {ds : List D} (s : Same F H) (h : IsB K mg F H v (.lst ds)) : ∃ a xs, v = .ref a ∧ H a = some (.lst xs) ∧ IsA K mg F xs ds := by
  rcases h with h | ⟨p, vs, xs, e1, e2, e3, e4⟩
  · obtain ⟨a, xs, rfl, h1, h2⟩ := h.lst_inv
    exact ⟨a, xs, rfl, s _ _ h1, h2⟩
  · cases e2
    exact ⟨p, vs, e1, e3, e4⟩
theorem IsB.toDp {d : D} {p : PyData} (s : Same F H) (h : IsB K mg F H v d) (e : toPy d = some p) : Dp K H v p := by
  rcases h with h | ⟨a, vs, xs, rfl, rfl, e3, e4⟩
  · exact dp_mono s (Is.toDp d v p h e)
  · simp only [toPy, Option.map_eq_some_iff] at e
    obtain ⟨ps, e1, rfl⟩ := e
    exact .lst (SqL.of e3) (dpA_mono s (IsA.toDp xs vs ps e4 e1))
end

/-- an operation on values that keeps the promise O of the data -/
def rP (K : PySem.W.Frag) (mg : Str → Option Value) (J : GJ) (O : Prim) : List V → Hp → VK → Prop := fun vs H Q =>
  ∃ (pr F : Hp) (ds : List D) (q : D → Prop), St8 J pr F H ∧ IsBA K mg F H vs ds ∧ O ds q ∧ ∀ d z F' H', Stp J pr F H F' H' → Is K mg F' z d → q d → Q z H'
def OpD (X : Cx) (J : GJ) (f : Value → Value → Sem Value) (O : Prim) : Prop := OpR X f fun x y H Q => rP X.K X.mg J O [x, y] H Q
def UnD (X : Cx) (J : GJ) (f : Value → Sem Value) (O : Prim) : Prop := UnR X f fun x H Q => rP X.K X.mg J O [x] H Q
def CallD (X : Cx) (J : GJ) (f : Value) (O : Prim) : Prop := CallR X f (rP X.K X.mg J O)
def IxD (X : Cx) (J : GJ) (O : Prim) : Prop := IxR X fun x y H Q => rP X.K X.mg J O [x, y] H Q
def MtD (X : Cx) (J : GJ) (id : String) (O : Prim) : Prop := MtR X id fun x xs H Q => rP X.K X.mg J O (x :: xs) H Q
theorem OpR.imp {X : Cx} {f : Value → Value → Sem Value} {r r' : R2} (h : OpR X f r) (i : ∀ x y H Q, r' x y H Q → r x y H Q) : OpR X f r' :=
  fun pins s σ H x y v u Q I rx ry q => h pins s σ H x y v u Q I rx ry (i _ _ _ _ q)
theorem UnR.imp {X : Cx} {f : Value → Sem Value} {r r' : V → Hp → VK → Prop} (h : UnR X f r) (i : ∀ x H Q, r' x H Q → r x H Q) : UnR X f r' :=
  fun pins s σ H x v Q I rx q => h pins s σ H x v Q I rx (i _ _ _ q)
theorem CallR.imp {X : Cx} {f : Value} {r r' : List V → Hp → VK → Prop} (h : CallR X f r) (i : ∀ x H Q, r' x H Q → r x H Q) : CallR X f r' :=
  fun pins s σ H x v Q I rx q => h pins s σ H x v Q I rx (i _ _ _ q)
theorem IxR.imp {X : Cx} {r r' : R2} (h : IxR X r) (i : ∀ x y H Q, r' x y H Q → r x y H Q) : IxR X r' :=
  fun a b pins s σ H x y v u Q I rx ry q hs => h a b pins s σ H x y v u Q I rx ry (i _ _ _ _ q) hs

section
variable {K : PySem.W.Frag} {mg : Str → Option Value} {J : GJ} {pr F H : Hp} {q : D → Prop} {Q : VK}
/-- the answer is flat: nothing is made -/
theorem ans (st : St8 J pr F H) (k : ∀ d z F' H', Stp J pr F H F' H' → Is K mg F' z d → q d → Q z H') {d : D} {z : V} (h : Is K mg F z d) (hq : q d) : Q z H := k d z F H (.refl st) h hq
/-- a new object -/
theorem ansNew (st : St8 J pr F H) (k : ∀ d z F' H', Stp J pr F H F' H' → Is K mg F' z d → q d → Q z H') {d : D} {p : Addr} {o : HO} (n : H p = none) (h : ∀ F', Same F F' → F' p = some o → Is K mg F' (.ref p) d) (hq : q d) (ho : NT o := by first | exact nt_lst | exact nt_tup) : Q (.ref p) (upd H p o) :=
  k d _ _ _ (st.laid n ho) (h _ (same_upd' (st.sub.free n)) upd_same) hq
theorem is_lst {F : Hp} {p : Addr} {vs : List V} {xs : List D} (h : IsA K mg F vs xs) : ∀ F', Same F F' → F' p = some (.lst vs) → Is K mg F' (.ref p) (.lst xs) := fun F' s e => .lst e (h.mono s)
theorem is_tup {F : Hp} {p : Addr} {vs : List V} {xs : List D} (h : IsA K mg F vs xs) : ∀ F', Same F F' → F' p = some (.tup vs) → Is K mg F' (.ref p) (.tup xs) := fun F' s e => .tup (SqT.of e) (h.mono s)
end

/-! ### arithmetic -/
@[simp] def oAdd : Prim
  | [.int i, .int j], q => q (.int (i + j))
  | [.int i, .bl k], q => q (.int (i + b2i k))
  | [.tup xs, .tup ys], q => xs.length + ys.length ≤ sizeLine ∧ q (.tup (xs ++ ys))
  | [.lst xs, .lst ys], q => xs.length + ys.length ≤ sizeLine ∧ q (.lst (xs ++ ys))
  | [.str x, .str y], q => x.length + y.length ≤ sizeLine ∧ q (.str (x ++ y))
  | _, _ => False
@[simp] def oSub : Prim
  | [.int i, .int j], q => q (.int (i - j))
  | _, _ => False
@[simp] def oMul : Prim
  | [.int i, .int j], q => CMul i j ∧ q (.int (i * j))
  | [.lst xs, .int k], q => -(2 ^ 63) ≤ k ∧ k < 2 ^ 63 ∧ xs.length * k.toNat ≤ sizeLine ∧ q (.lst (List.replicate k.toNat xs).flatten)
  | _, _ => False
@[simp] def oDiv : Prim
  | [.int i, .int j], q => CDiv i j ∧ q (.int (i / j))
  | _, _ => False
@[simp] def oMod : Prim
  | [.int i, .int j], q => 0 < j ∧ q (.int (i % j))
  | _, _ => False
@[simp] def oPow : Prim
  | [.int i, .int j], q => CPow i j ∧ q (.int (i ^ j.toNat))
  | _, _ => False
@[simp] def oNeg : Prim
  | [.int i], q => q (.int (-i))
  | _, _ => False
theorem isA_rep {K : PySem.W.Frag} {mg : Str → Option Value} {F : Hp} {vs : List V} {xs : List D} (h : IsA K mg F vs xs) : ∀ n : Nat, IsA K mg F (List.replicate n vs).flatten (List.replicate n xs).flatten
  | 0 => .nil
  | n + 1 => by
    rw [List.replicate_succ, List.replicate_succ, List.flatten_cons, List.flatten_cons]
    exact h.append (isA_rep h n)
section
variable {X : Cx} {J : GJ}
theorem od_add : OpD X J (binaryOp .Add) oAdd := by
  intro pins s σ H x y v u Q I rx ry ⟨pr, F, ds, q, st, ia, ho, k⟩
  unfold oAdd at ho
  split at ho
  · obtain ⟨a, b, e, ha, hb⟩ := ia.two_inv
    cases e
    cases ha.int_inv
    cases hb.int_inv
    exact op_add pins s σ H _ _ v u Q I rx ry ⟨_, _, rfl, rfl, ans st k (.int _) ho⟩
  · obtain ⟨a, b, e, ha, hb⟩ := ia.two_inv
    cases e
    cases ha.int_inv
    cases hb.bl_inv
    exact op_add_ib pins s σ H _ _ v u Q I rx ry ⟨_, _, rfl, rfl, ans st k (.int _) ho⟩
  · obtain ⟨a, b, e, ha, hb⟩ := ia.two_inv
    cases e
    obtain ⟨p1, vs, rfl, h1, a1⟩ := ha.tup_inv
    obtain ⟨p2, ws, rfl, h2, a2⟩ := hb.tup_inv
    refine op_catA pins s σ H _ _ v u Q I rx ry ⟨_, _, vs, ws, rfl, rfl, same_seqT st.sub h1, same_seqT st.sub h2, ?_, ?_⟩
    · rw [a1.length, a2.length]
      exact ho.1
    · rename_i q0 xs ys
      refine ⟨fun e => ?_, fun _ e => ?_, fun _ _ p hp => ansNew st k hp (is_tup (a1.append a2)) ho.2⟩
      · subst e
        have e0 : xs = [] := List.length_eq_zero_iff.mp a1.length.symm
        subst e0
        exact ans st k (.tup h2 a2) ho.2
      · subst e
        have e0 : ys = [] := List.length_eq_zero_iff.mp a2.length.symm
        subst e0
        have := ho.2
        rw [List.append_nil] at this
        exact ans st k (.tup h1 a1) this
  · obtain ⟨a, b, e, ha, hb⟩ := ia.two_inv
    cases e
    obtain ⟨p1, vs, rfl, h1, a1⟩ := ha.lst_inv st.sub
    obtain ⟨p2, ws, rfl, h2, a2⟩ := hb.lst_inv st.sub
    refine op_cat pins s σ H _ _ v u Q I rx ry ⟨_, _, vs, ws, rfl, rfl, h1, h2, ?_, fun p hp => ansNew st k hp (is_lst (a1.append a2)) ho.2⟩
    rw [a1.length, a2.length]
    exact ho.1
  · obtain ⟨a, b, e, ha, hb⟩ := ia.two_inv
    cases e
    cases ha.str_inv
    cases hb.str_inv
    exact op_add_str pins s σ H _ _ v u Q I rx ry ⟨_, _, rfl, rfl, ho.1, ans st k (.str _) ho.2⟩
  · exact ho.elim
theorem od_sub : OpD X J (binaryOp .Sub) oSub := by
  intro pins s σ H x y v u Q I rx ry ⟨pr, F, ds, q, st, ia, ho, k⟩
  unfold oSub at ho
  split at ho
  · obtain ⟨a, b, e, ha, hb⟩ := ia.two_inv
    cases e
    cases ha.int_inv
    cases hb.int_inv
    exact op_sub pins s σ H _ _ v u Q I rx ry ⟨_, _, rfl, rfl, ans st k (.int _) ho⟩
  · exact ho.elim
theorem od_mul : OpD X J (binaryOp .Mult) oMul := by
  intro pins s σ H x y v u Q I rx ry ⟨pr, F, ds, q, st, ia, ho, k⟩
  unfold oMul at ho
  split at ho
  · obtain ⟨a, b, e, ha, hb⟩ := ia.two_inv
    cases e
    cases ha.int_inv
    cases hb.int_inv
    exact op_mul pins s σ H _ _ v u Q I rx ry ⟨_, _, rfl, rfl, ho.1, ans st k (.int _) ho.2⟩
  · obtain ⟨a, b, e, ha, hb⟩ := ia.two_inv
    cases e
    cases hb.int_inv
    obtain ⟨p1, vs, rfl, h1, a1⟩ := ha.lst_inv st.sub
    exact op_rep pins s σ H _ _ v u Q I rx ry ⟨_, _, vs, rfl, rfl, h1, ho.1, ho.2.1, by rw [a1.length]; exact ho.2.2.1, fun p hp => ansNew st k hp (is_lst (isA_rep a1 _)) ho.2.2.2⟩
  · exact ho.elim
theorem od_div : OpD X J (binaryOp .FloorDiv) oDiv := by
  intro pins s σ H x y v u Q I rx ry ⟨pr, F, ds, q, st, ia, ho, k⟩
  unfold oDiv at ho
  split at ho
  · obtain ⟨a, b, e, ha, hb⟩ := ia.two_inv
    cases e
    cases ha.int_inv
    cases hb.int_inv
    exact op_fdiv pins s σ H _ _ v u Q I rx ry ⟨_, _, rfl, rfl, ho.1, ans st k (.int _) ho.2⟩
  · exact ho.elim
theorem od_mod : OpD X J (binaryOp .Mod) oMod := by
  intro pins s σ H x y v u Q I rx ry ⟨pr, F, ds, q, st, ia, ho, k⟩
  unfold oMod at ho
  split at ho
  · obtain ⟨a, b, e, ha, hb⟩ := ia.two_inv
    cases e
    cases ha.int_inv
    cases hb.int_inv
    exact op_mod pins s σ H _ _ v u Q I rx ry ⟨_, _, rfl, rfl, ho.1, ans st k (.int _) ho.2⟩
  · exact ho.elim
theorem od_pow : OpD X J (binaryOp .Pow) oPow := by
  intro pins s σ H x y v u Q I rx ry ⟨pr, F, ds, q, st, ia, ho, k⟩
  unfold oPow at ho
  split at ho
  · obtain ⟨a, b, e, ha, hb⟩ := ia.two_inv
    cases e
    cases ha.int_inv
    cases hb.int_inv
    exact op_pow pins s σ H _ _ v u Q I rx ry ⟨_, _, rfl, rfl, ho.1, ans st k (.int _) ho.2⟩
  · exact ho.elim
theorem ud_neg : UnD X J (unaryOp .USub) oNeg := by
  intro pins s σ H x v Q I rx ⟨pr, F, ds, q, st, ia, ho, k⟩
  unfold oNeg at ho
  split at ho
  · obtain ⟨a, e, ha⟩ := ia.one_inv
    cases e
    cases ha.int_inv
    exact un_neg pins s σ H _ v Q I rx ⟨_, rfl, ans st k (.int _) ho⟩
  · exact ho.elim
end

/-! ### order, equality, in -/
@[simp] def oCmp (f : Int → Int → Bool) : Prim
  | [.int i, .int j], q => q (.bl (f i j))
  | _, _ => False
@[simp] def oLt : Prim := oCmp fun i j => decide (i < j)
@[simp] def oLe : Prim := oCmp fun i j => decide (i ≤ j)
@[simp] def oGt : Prim := oCmp fun i j => decide (j < i)
@[simp] def oGe : Prim := oCmp fun i j => decide (j ≤ i)
section
variable {X : Cx} {J : GJ}
theorem od_cmp {op : CmpOp} {f : Int → Int → Bool} (h : OpR X (compareOp op) (rI0 fun i j => .bl (f i j))) : OpD X J (compareOp op) (oCmp f) := by
  intro pins s σ H x y v u Q I rx ry ⟨pr, F, ds, q, st, ia, ho, k⟩
  unfold oCmp at ho
  split at ho
  · obtain ⟨a, b, e, ha, hb⟩ := ia.two_inv
    cases e
    cases ha.int_inv
    cases hb.int_inv
    exact h pins s σ H _ _ v u Q I rx ry ⟨_, _, rfl, rfl, ans st k (.bl _) ho⟩
  · exact ho.elim
theorem od_lt : OpD X J (compareOp .Lt) oLt := od_cmp op_lt
theorem od_le : OpD X J (compareOp .LtE) oLe := od_cmp op_le
theorem od_gt : OpD X J (compareOp .Gt) oGt := od_cmp op_gt
theorem od_ge : OpD X J (compareOp .GtE) oGe := od_cmp op_ge
end

mutual
/-- == of data -/
@[simp] def eqD : D → D → Bool
  | .non, .non => true
  | .bl a, .bl b => a == b
  | .bl a, .int j => (if a then 1 else 0) == j
  | .int i, .bl b => i == (if b then 1 else 0)
  | .int i, .int j => i == j
  | .str x, .str y => x == y
  | .lst xs, .lst ys => eqDA xs ys
  | .tup xs, .tup ys => eqDA xs ys
  | _, _ => false
@[simp] def eqDA : List D → List D → Bool
  | [], [] => true
  | x :: xs, y :: ys => eqD x y && eqDA xs ys
  | _, _ => false
end
mutual
theorem eqv_eqD : ∀ (a b : D) (p r : PyData), toPy a = some p → toPy b = some r → PyData.eqv p r = eqD a b
  | .non, b, p, r, e1, e2 => by
    cases e1
    cases b <;> simp [toPy] at e2 <;> first | (subst e2; simp [PyData.eqv, eqD]) | (obtain ⟨_, _, e2⟩ := e2; subst e2; simp [PyData.eqv, eqD])
  | .bl a, b, p, r, e1, e2 => by
    cases e1
    cases b <;> simp [toPy] at e2 <;> first | (subst e2; simp [PyData.eqv, eqD]) | (obtain ⟨_, _, e2⟩ := e2; subst e2; simp [PyData.eqv, eqD])
  | .int a, b, p, r, e1, e2 => by
    cases e1
    cases b <;> simp [toPy] at e2 <;> first | (subst e2; simp [PyData.eqv, eqD]) | (obtain ⟨_, _, e2⟩ := e2; subst e2; simp [PyData.eqv, eqD])
  | .str a, b, p, r, e1, e2 => by
    cases e1
    cases b <;> simp [toPy] at e2 <;> first | (subst e2; simp [PyData.eqv, eqD]) | (obtain ⟨_, _, e2⟩ := e2; subst e2; simp [PyData.eqv, eqD])
  | .tup xs, b, p, r, e1, e2 => by
    simp only [toPy, Option.map_eq_some_iff] at e1
    obtain ⟨ps, h1, rfl⟩ := e1
    cases b <;> simp [toPy] at e2 <;> first | (subst e2; simp [PyData.eqv, eqD]; done) | (obtain ⟨rs, h2, rfl⟩ := e2; first | (simp only [PyData.eqv, eqD]; done) | (simp only [PyData.eqv, eqD]; exact eqvA_eqDA xs _ ps rs h1 h2))
  | .lst xs, b, p, r, e1, e2 => by
    simp only [toPy, Option.map_eq_some_iff] at e1
    obtain ⟨ps, h1, rfl⟩ := e1
    cases b <;> simp [toPy] at e2 <;> first | (subst e2; simp [PyData.eqv, eqD]; done) | (obtain ⟨rs, h2, rfl⟩ := e2; first | (simp only [PyData.eqv, eqD]; done) | (simp only [PyData.eqv, eqD]; exact eqvA_eqDA xs _ ps rs h1 h2))
  | .ins _ _, _, _, _, e, _ => by simp [toPy] at e
  | .tk _, _, _, _, e, _ => by simp [toPy] at e
  | .ty _, _, _, _, e, _ => by simp [toPy] at e
  | .cls _, _, _, _, e, _ => by simp [toPy] at e
theorem eqvA_eqDA : ∀ (as bs : List D) (ps rs : List PyData), toPyA as = some ps → toPyA bs = some rs → PyData.eqvAll ps rs = eqDA as bs
  | [], bs, ps, rs, e1, e2 => by
    simp [toPyA] at e1
    subst e1
    cases bs with
    | nil =>
      simp [toPyA] at e2
      subst e2
      simp [PyData.eqvAll, eqDA]
    | cons b bs =>
      unfold toPyA at e2
      split at e2
      · cases e2
        simp [PyData.eqvAll, eqDA]
      · cases e2
  | a :: as, bs, ps, rs, e1, e2 => by
    unfold toPyA at e1
    split at e1
    · rename_i p ps' h1 h1'
      cases e1
      cases bs with
      | nil =>
        simp [toPyA] at e2
        subst e2
        simp [PyData.eqvAll, eqDA]
      | cons b bs =>
        unfold toPyA at e2
        split at e2
        · rename_i r rs' h2 h2'
          cases e2
          simp only [PyData.eqvAll, eqDA]
          rw [eqv_eqD a b p r h1 h2, eqvA_eqDA as bs ps' rs' h1' h2']
        · cases e2
    · cases e1
end

mutual
/-- data of the library's kind, nested at most n deep -/
@[simp] def okE : Nat → D → Bool
  | _, .non => true
  | _, .bl _ => true
  | _, .int _ => true
  | _, .str x => PyData.strOk x
  | n, .tup xs => decide (0 < n) && okEA (n - 1) xs
  | n, .lst xs => decide (0 < n) && okEA (n - 1) xs
  | _, .ins _ _ => false
  | _, .tk _ => false
  | _, .ty _ => false
  | _, .cls _ => false
@[simp] def okEA : Nat → List D → Bool
  | _, [] => true
  | n, d :: ds => okE n d && okEA n ds
end
mutual
theorem okE_py : ∀ (d : D) (n : Nat), okE n d = true → ∃ p, toPy d = some p ∧ p.canLay0 = true ∧ p.depth ≤ n
  | .non, n, _ => ⟨_, rfl, by simp [PyData.canLay0], by simp [PyData.depth]⟩
  | .bl _, n, _ => ⟨_, rfl, by simp [PyData.canLay0], by simp [PyData.depth]⟩
  | .int _, n, _ => ⟨_, rfl, by simp [PyData.canLay0], by simp [PyData.depth]⟩
  | .str x, n, h => ⟨_, rfl, by simpa [PyData.canLay0, okE] using h, by simp [PyData.depth]⟩
  | .tup xs, n, h => by
    simp only [okE, Bool.and_eq_true, decide_eq_true_eq] at h
    obtain ⟨ps, e, h1, h2⟩ := okEA_py xs _ h.2
    exact ⟨.tuple ps, by simp [toPy, e], by simpa [PyData.canLay0] using h1, by simp only [PyData.depth]; omega⟩
  | .lst xs, n, h => by
    simp only [okE, Bool.and_eq_true, decide_eq_true_eq] at h
    obtain ⟨ps, e, h1, h2⟩ := okEA_py xs _ h.2
    exact ⟨.list ps, by simp [toPy, e], by simpa [PyData.canLay0] using h1, by simp only [PyData.depth]; omega⟩
  | .ins _ _, _, h => by simp [okE] at h
  | .tk _, _, h => by simp [okE] at h
  | .ty _, _, h => by simp [okE] at h
  | .cls _, _, h => by simp [okE] at h
theorem okEA_py : ∀ (ds : List D) (n : Nat), okEA n ds = true → ∃ ps, toPyA ds = some ps ∧ PyData.canLayAll0 ps = true ∧ PyData.depthAll ps ≤ n
  | [], n, _ => ⟨[], by simp [toPyA], by simp [PyData.canLayAll0], by simp [PyData.depthAll]⟩
  | d :: ds, n, h => by
    simp only [okEA, Bool.and_eq_true] at h
    obtain ⟨p, e, h1, h2⟩ := okE_py d n h.1
    obtain ⟨ps, e', h1', h2'⟩ := okEA_py ds n h.2
    exact ⟨p :: ps, by simp [toPyA, e, e'], by simp [PyData.canLayAll0, h1, h1'], by simp only [PyData.depthAll]; omega⟩
end
theorem okE_shaped {d : D} (h : okE 60 d = true) : ∃ p, toPy d = some p ∧ SeqAt.shaped p = true := by
  obtain ⟨p, e, h1, h2⟩ := okE_py d 60 h
  refine ⟨p, e, ?_⟩
  unfold SeqAt.shaped
  rw [h1, Bool.true_and]
  exact decide_eq_true (by omega)

@[simp] def oEq : Prim
  | [a, b], q => ((okE 60 a = true ∧ okE 60 b = true) ∨ ∃ x y, a = .str x ∧ b = .str y) ∧ q (.bl (eqD a b))
  | _, _ => False
@[simp] def oNe : Prim
  | [a, b], q => ((okE 60 a = true ∧ okE 60 b = true) ∨ ∃ x y, a = .str x ∧ b = .str y) ∧ q (.bl (!eqD a b))
  | _, _ => False
def inD (x : D) (ys : List D) : Bool := ys.any fun y => eqD y x
@[simp] def oIn : Prim
  | [x, .lst ys], q => okE 60 x = true ∧ okE 60 (.lst ys) = true ∧ q (.bl (inD x ys))
  | [x, .tup ys], q => okE 60 x = true ∧ okE 60 (.tup ys) = true ∧ q (.bl (inD x ys))
  | _, _ => False
@[simp] def oNotIn : Prim
  | [x, .lst ys], q => okE 60 x = true ∧ okE 60 (.lst ys) = true ∧ q (.bl (!inD x ys))
  | [x, .tup ys], q => okE 60 x = true ∧ okE 60 (.tup ys) = true ∧ q (.bl (!inD x ys))
  | _, _ => False
theorem any_inD {x : D} {p : PyData} (hx : toPy x = some p) : ∀ {ys : List D} {ps : List PyData}, toPyA ys = some ps → (ps.any fun z => PyData.eqv z p) = inD x ys
  | [], _, e => by
    simp [toPyA] at e
    subst e
    rfl
  | y :: ys, _, e => by
    unfold toPyA at e
    split at e
    · rename_i r rs h1 h2
      cases e
      have ih := any_inD hx h2
      unfold inD at ih ⊢
      rw [List.any_cons, List.any_cons, eqv_eqD y x r p h1 hx, ih]
    · cases e
section
variable {X : Cx} {J : GJ}
theorem od_eq (hu : X.A.units + 64 < cLine) : OpD X J (compareOp .Eq) oEq := by
  intro pins s σ H x y v u Q I rx ry ⟨pr, F, ds, q, st, ia, ho, k⟩
  unfold oEq at ho
  split at ho
  · obtain ⟨a, b, e, ha, hb⟩ := ia.two_inv
    cases e
    rcases ho.1 with h | ⟨z, w, rfl, rfl⟩
    · obtain ⟨p, e1, s1⟩ := okE_shaped h.1
      obtain ⟨r, e2, s2⟩ := okE_shaped h.2
      refine op_eqD hu pins s σ H _ _ v u Q I rx ry ⟨p, r, ha.toDp st.sub e1, hb.toDp st.sub e2, s1, s2, ?_⟩
      rw [eqv_eqD _ _ p r e1 e2]
      exact ans st k (.bl _) ho.2
    · cases ha.str_inv
      cases hb.str_inv
      refine op_eq pins s σ H _ _ v u Q I rx ry ⟨rfl, ?_⟩
      have e : decide (V.str z = V.str w) = eqD (.str z) (.str w) := by
        show _ = (z == w)
        rw [Bool.eq_iff_iff, decide_eq_true_eq, beq_iff_eq]
        exact ⟨fun h => V.str.inj h, fun h => by rw [h]⟩
      rw [e]
      exact ans st k (.bl _) ho.2
  · exact ho.elim
theorem od_ne (hu : X.A.units + 64 < cLine) : OpD X J (compareOp .NotEq) oNe := by
  intro pins s σ H x y v u Q I rx ry ⟨pr, F, ds, q, st, ia, ho, k⟩
  unfold oNe at ho
  split at ho
  · obtain ⟨a, b, e, ha, hb⟩ := ia.two_inv
    cases e
    rcases ho.1 with h | ⟨z, w, rfl, rfl⟩
    · obtain ⟨p, e1, s1⟩ := okE_shaped h.1
      obtain ⟨r, e2, s2⟩ := okE_shaped h.2
      refine op_neD hu pins s σ H _ _ v u Q I rx ry ⟨p, r, ha.toDp st.sub e1, hb.toDp st.sub e2, s1, s2, ?_⟩
      rw [eqv_eqD _ _ p r e1 e2]
      exact ans st k (.bl _) ho.2
    · cases ha.str_inv
      cases hb.str_inv
      refine op_ne pins s σ H _ _ v u Q I rx ry ⟨rfl, ?_⟩
      have e : decide (V.str z = V.str w) = eqD (.str z) (.str w) := by
        show _ = (z == w)
        rw [Bool.eq_iff_iff, decide_eq_true_eq, beq_iff_eq]
        exact ⟨fun h => V.str.inj h, fun h => by rw [h]⟩
      rw [e]
      exact ans st k (.bl _) ho.2
  · exact ho.elim
theorem od_in (hu : X.A.units + 65 < cLine) : OpD X J (compareOp .In) oIn := by
  intro pins s σ H x y v u Q I rx ry ⟨pr, F, ds, q, st, ia, ho, k⟩
  unfold oIn at ho
  split at ho
  · obtain ⟨a, b, e, ha, hb⟩ := ia.two_inv
    cases e
    obtain ⟨p, e1, s1⟩ := okE_shaped ho.1
    obtain ⟨r, e2, s2⟩ := okE_shaped ho.2.1
    have e3 := e2
    simp only [toPy, Option.map_eq_some_iff] at e3
    obtain ⟨rs, e4, rfl⟩ := e3
    refine op_inD hu pins s σ H _ _ v u Q I rx ry ⟨p, rs, ha.toDp st.sub e1, hb.toDp st.sub e2, s1, s2, ?_⟩
    rw [any_inD e1 e4]
    exact ans st k (.bl _) ho.2.2
  · obtain ⟨a, b, e, ha, hb⟩ := ia.two_inv
    cases e
    obtain ⟨p, e1, s1⟩ := okE_shaped ho.1
    obtain ⟨r, e2, s2⟩ := okE_shaped ho.2.1
    have e3 := e2
    simp only [toPy, Option.map_eq_some_iff] at e3
    obtain ⟨rs, e4, rfl⟩ := e3
    obtain ⟨as, r1⟩ := Dp.reads I p _ v (ha.toDp st.sub e1) rx
    obtain ⟨bs, r2⟩ := Dp.reads I (.tuple rs) _ u (hb.toDp st.sub e2) ry
    refine SeqAt.in_tuple_reads r2 r1 (SeqAt.canLay_of_shaped s2) (SeqAt.canLay_of_shaped s1) ?_ ⟨.bl _, H, I, rfl, ?_⟩
    · have h1 := SeqAt.depth_of_shaped s1
      have := Nat.min_le_right (PyData.depthAll rs) p.depth
      omega
    · rw [any_inD e1 e4]
      exact ans st k (.bl _) ho.2.2
  · exact ho.elim
theorem od_notIn (hu : X.A.units + 65 < cLine) : OpD X J (compareOp .NotIn) oNotIn := by
  intro pins s σ H x y v u Q I rx ry ⟨pr, F, ds, q, st, ia, ho, k⟩
  unfold oNotIn at ho
  split at ho
  · obtain ⟨a, b, e, ha, hb⟩ := ia.two_inv
    cases e
    obtain ⟨p, e1, s1⟩ := okE_shaped ho.1
    obtain ⟨r, e2, s2⟩ := okE_shaped ho.2.1
    have e3 := e2
    simp only [toPy, Option.map_eq_some_iff] at e3
    obtain ⟨rs, e4, rfl⟩ := e3
    refine op_notInD hu pins s σ H _ _ v u Q I rx ry ⟨p, rs, ha.toDp st.sub e1, hb.toDp st.sub e2, s1, s2, ?_⟩
    rw [any_inD e1 e4]
    exact ans st k (.bl _) ho.2.2
  · obtain ⟨a, b, e, ha, hb⟩ := ia.two_inv
    cases e
    obtain ⟨p, e1, s1⟩ := okE_shaped ho.1
    obtain ⟨r, e2, s2⟩ := okE_shaped ho.2.1
    have e3 := e2
    simp only [toPy, Option.map_eq_some_iff] at e3
    obtain ⟨rs, e4, rfl⟩ := e3
    obtain ⟨as, r1⟩ := Dp.reads I p _ v (ha.toDp st.sub e1) rx
    obtain ⟨bs, r2⟩ := Dp.reads I (.tuple rs) _ u (hb.toDp st.sub e2) ry
    refine SeqAt.notIn_tuple_reads r2 r1 (SeqAt.canLay_of_shaped s2) (SeqAt.canLay_of_shaped s1) ?_ ⟨.bl _, H, I, rfl, ?_⟩
    · have h1 := SeqAt.depth_of_shaped s1
      have := Nat.min_le_right (PyData.depthAll rs) p.depth
      omega
    · rw [any_inD e1 e4]
      exact ans st k (.bl _) ho.2.2
  · exact ho.elim
end

/-! ### subscripts, slices -/
@[simp] def oIx : Prim
  | [.lst xs, .int i], q => ∃ d, atI xs i = some d ∧ q d
  | [.tup xs, .int i], q => ∃ d, atI xs i = some d ∧ q d
  | _, _ => False
def cutD {α : Type} (xs : List α) (lo hi : Option Int) : List α := (xs.drop (HT.sIx xs.length 0 lo)).take (HT.sIx xs.length xs.length hi - HT.sIx xs.length 0 lo)
/-- a slice by data -/
abbrev PrimS := D → Option Int → Option Int → (D → Prop) → Prop
@[simp] def oSl : PrimS
  | .lst xs, lo, hi, q => q (.lst (cutD xs lo hi))
  | .tup xs, lo, hi, q => q (.tup (cutD xs lo hi))
  | _, _, _, _ => False
def rPS (K : PySem.W.Frag) (mg : Str → Option Value) (J : GJ) (O : PrimS) : V → Option Int → Option Int → Hp → VK → Prop := fun v lo hi H Q =>
  ∃ (pr F : Hp) (d : D) (q : D → Prop), St8 J pr F H ∧ IsB K mg F H v d ∧ O d lo hi q ∧ ∀ d z F' H', Stp J pr F H F' H' → Is K mg F' z d → q d → Q z H'
def SlD (X : Cx) (J : GJ) (O : PrimS) : Prop := SlR X (rPS X.K X.mg J O)
theorem isA_atI {K : PySem.W.Frag} {mg : Str → Option Value} {F : Hp} {vs : List V} {xs : List D} (h : IsA K mg F vs xs) {i : Int} {d : D} (e : atI xs i = some d) : ∃ v, atI vs i = some v ∧ Is K mg F v d := by
  unfold atI at e ⊢
  rw [h.length]
  cases hx : ixN xs.length i with
  | none =>
    rw [hx] at e
    cases e
  | some j =>
    rw [hx] at e
    exact h.get e
theorem isA_cut {K : PySem.W.Frag} {mg : Str → Option Value} {F : Hp} {vs : List V} {xs : List D} (h : IsA K mg F vs xs) (lo hi : Option Int) : IsA K mg F (cutV vs lo hi) (cutD xs lo hi) := by
  unfold cutV cutD
  rw [h.length]
  exact (h.drop _).take _
theorem cutD_whole {α : Type} (xs : List α) (lo hi : Option Int) (h : HT.sIx xs.length 0 lo = 0 ∧ HT.sIx xs.length xs.length hi = xs.length) : cutD xs lo hi = xs := by
  unfold cutD
  rw [h.1, h.2, List.drop_zero, Nat.sub_zero, List.take_length]
section
variable {X : Cx} {J : GJ}
theorem od_ix : IxD X J oIx := by
  intro ea eb pins s σ H x y v u Q I rx ry ⟨pr, F, ds, q, st, ia, ho, k⟩ hs
  unfold oIx at ho
  split at ho
  · obtain ⟨a, b, e, ha, hb⟩ := ia.two_inv
    cases e
    cases hb.int_inv
    obtain ⟨p1, vs, rfl, h1, a1⟩ := ha.lst_inv st.sub
    obtain ⟨d, e, ho⟩ := ho
    obtain ⟨z, e2, hz⟩ := isA_atI a1 e
    exact ix_list ea eb pins s σ H _ _ v u Q I rx ry ⟨_, vs, _, z, rfl, rfl, SqL.of h1, e2, ans st k hz ho⟩ hs
  · obtain ⟨a, b, e, ha, hb⟩ := ia.two_inv
    cases e
    cases hb.int_inv
    obtain ⟨p1, vs, rfl, h1, a1⟩ := ha.tup_inv
    obtain ⟨d, e, ho⟩ := ho
    obtain ⟨z, e2, hz⟩ := isA_atI a1 e
    exact ix_tup ea eb pins s σ H _ _ v u Q I rx ry ⟨_, vs, _, z, rfl, rfl, same_seqT st.sub h1, e2, ans st k hz ho⟩ hs
  · exact ho.elim
theorem od_sl : SlD X J oSl := by
  intro pins s σ H x v vl vu lo hi sl Q I rx hs pl pu ⟨pr, F, d, q, st, ha, ho, k⟩
  unfold oSl at ho
  split at ho
  · obtain ⟨p1, vs, rfl, h1, a1⟩ := ha.lst_inv st.sub
    exact sl_list pins s σ H _ v vl vu lo hi sl Q I rx hs pl pu ⟨_, vs, rfl, SqL.of h1, fun p hp => ansNew st k hp (is_lst (isA_cut a1 lo hi)) ho⟩
  · obtain ⟨p1, vs, rfl, h1, a1⟩ := ha.tup_inv
    refine sl_tupA pins s σ H _ v vl vu _ _ sl Q I rx hs pl pu ⟨_, vs, rfl, same_seqT st.sub h1, fun w => ?_, fun _ p hp => ansNew st k hp (is_tup (isA_cut a1 _ _)) ho⟩
    rw [a1.length] at w
    rw [cutD_whole _ _ _ w] at ho
    exact ans st k (.tup h1 a1) ho
  · exact ho.elim
end
end DL

/-! DL2: built-in functions by data. -/
namespace DL
open PySem PySem.Spec PyProof.Rows L2

/-! ### len, list, tuple, int, abs -/
@[simp] def oLen : Prim
  | [.lst xs], q => q (.int xs.length)
  | [.tup xs], q => q (.int xs.length)
  | [.str x], q => x.length ≤ sizeLine ∧ q (.int x.length)
  | _, _ => False
@[simp] def oList : Prim
  | [.lst xs], q => q (.lst xs)
  | [.tup xs], q => q (.lst xs)
  | _, _ => False
@[simp] def oTuple : Prim
  | [.lst xs], q => q (.tup xs)
  | [.tup xs], q => q (.tup xs)
  | _, _ => False
@[simp] def oInt : Prim
  | [.int i], q => q (.int i)
  | [.bl k], q => q (.int (if k then 1 else 0))
  | _, _ => False
@[simp] def oAbs : Prim
  | [.int i], q => q (.int (if i < 0 then -i else i))
  | _, _ => False
section
variable {X : Cx} {J : GJ}
theorem cd_len : CallD X J (.builtin "len") oLen := by
  intro pins s σ H xs us Q I r ⟨pr, F, ds, q, st, ia, ho, k⟩
  unfold oLen at ho
  split at ho
  · obtain ⟨a, e, ha⟩ := ia.one_inv
    cases e
    obtain ⟨p1, vs, rfl, h1, a1⟩ := ha.lst_inv st.sub
    refine call_len_seq pins s σ H _ us Q I r ⟨_, vs, rfl, .inl (SqL.of h1), ?_⟩
    rw [a1.length]
    exact ans st k (.int _) ho
  · obtain ⟨a, e, ha⟩ := ia.one_inv
    cases e
    obtain ⟨p1, vs, rfl, h1, a1⟩ := ha.tup_inv
    refine call_len_seq pins s σ H _ us Q I r ⟨_, vs, rfl, .inr (same_seqT st.sub h1), ?_⟩
    rw [a1.length]
    exact ans st k (.int _) ho
  · obtain ⟨a, e, ha⟩ := ia.one_inv
    cases e
    cases ha.str_inv
    exact call_len_str pins s σ H _ us Q I r ⟨_, rfl, ho.1, ans st k (.int _) ho.2⟩
  · exact ho.elim
theorem cd_list : CallD X J (.type "list") oList := by
  intro pins s σ H xs us Q I r ⟨pr, F, ds, q, st, ia, ho, k⟩
  unfold oList at ho
  split at ho
  · obtain ⟨a, e, ha⟩ := ia.one_inv
    cases e
    obtain ⟨p1, vs, rfl, h1, a1⟩ := ha.lst_inv st.sub
    exact call_list_of pins s σ H _ us Q I r ⟨_, vs, rfl, .inl (SqL.of h1), fun p hp => ansNew st k hp (is_lst a1) ho⟩
  · obtain ⟨a, e, ha⟩ := ia.one_inv
    cases e
    obtain ⟨p1, vs, rfl, h1, a1⟩ := ha.tup_inv
    exact call_list_of pins s σ H _ us Q I r ⟨_, vs, rfl, .inr (same_seqT st.sub h1), fun p hp => ansNew st k hp (is_lst a1) ho⟩
  · exact ho.elim
theorem cd_tuple : CallD X J (.type "tuple") oTuple := by
  intro pins s σ H xs us Q I r ⟨pr, F, ds, q, st, ia, ho, k⟩
  unfold oTuple at ho
  split at ho
  · obtain ⟨a, e, ha⟩ := ia.one_inv
    cases e
    obtain ⟨p1, vs, rfl, h1, a1⟩ := ha.lst_inv st.sub
    exact call_tuple_of pins s σ H _ us Q I r ⟨_, vs, rfl, .inl ⟨SqL.of h1, fun p hp => ansNew st k hp (is_tup a1) ho⟩⟩
  · obtain ⟨a, e, ha⟩ := ia.one_inv
    cases e
    obtain ⟨p1, vs, rfl, h1, a1⟩ := ha.tup_inv
    exact call_tuple_of pins s σ H _ us Q I r ⟨_, vs, rfl, .inr ⟨same_seqT st.sub h1, ans st k (.tup h1 a1) ho⟩⟩
  · exact ho.elim
theorem cd_int : CallD X J (.type "int") oInt := by
  intro pins s σ H xs us Q I r ⟨pr, F, ds, q, st, ia, ho, k⟩
  unfold oInt at ho
  split at ho
  · obtain ⟨a, e, ha⟩ := ia.one_inv
    cases e
    cases ha.int_inv
    exact call_int1 pins s σ H _ us Q I r (.inl ⟨_, rfl, ans st k (.int _) ho⟩)
  · obtain ⟨a, e, ha⟩ := ia.one_inv
    cases e
    cases ha.bl_inv
    exact call_int1 pins s σ H _ us Q I r (.inr ⟨_, rfl, ans st k (.int _) ho⟩)
  · exact ho.elim
theorem cd_abs : CallD X J (.builtin "abs") oAbs := by
  intro pins s σ H xs us Q I r ⟨pr, F, ds, q, st, ia, ho, k⟩
  unfold oAbs at ho
  split at ho
  · obtain ⟨a, e, ha⟩ := ia.one_inv
    cases e
    cases ha.int_inv
    exact call_abs pins s σ H _ us Q I r ⟨_, rfl, ans st k (.int _) ho⟩
  · exact ho.elim
end

/-! ### all, any, sum, max, min of lists -/
@[simp] def oAll : Prim
  | [.lst xs], q => ∃ bs : List Bool, xs = bs.map D.bl ∧ q (.bl (bs.all id))
  | _, _ => False
@[simp] def oAny : Prim
  | [.lst xs], q => ∃ bs : List Bool, xs = bs.map D.bl ∧ q (.bl (bs.any id))
  | _, _ => False
@[simp] def oSum : Prim
  | [.lst xs], q => ∃ ns : List Int, xs = ns.map D.int ∧ q (.int ns.sum)
  | _, _ => False
@[simp] def oMax : Prim
  | [.lst xs], q => ∃ ns : List Int, xs = ns.map D.int ∧ 0 < ns.length ∧ ∀ m, m ∈ ns → (∀ y, y ∈ ns → y ≤ m) → q (.int m)
  | [.int i, .int j], q => q (.int (if j > i then j else i))
  | _, _ => False
@[simp] def oMin : Prim
  | [.lst xs], q => ∃ ns : List Int, xs = ns.map D.int ∧ 0 < ns.length ∧ ∀ m, m ∈ ns → (∀ y, y ∈ ns → m ≤ y) → q (.int m)
  | [.int i, .int j], q => q (.int (if j < i then j else i))
  | _, _ => False
section
variable {X : Cx} {J : GJ}
theorem cd_all (hc : X.calm = true) : CallD X J (.builtin "all") oAll := by
  intro pins s σ H xs us Q I r ⟨pr, F, ds, q, st, ia, ho, k⟩
  unfold oAll at ho
  split at ho
  · obtain ⟨a, e, ha⟩ := ia.one_inv
    cases e
    obtain ⟨p1, vs, rfl, h1, a1⟩ := ha.lst_inv st.sub
    obtain ⟨bs, rfl, ho⟩ := ho
    rw [a1.bls] at h1
    exact cr_all hc pins s σ H _ us Q I r ⟨_, bs, rfl, SqL.of h1, ans st k (.bl _) ho⟩
  · exact ho.elim
theorem cd_any (hc : X.calm = true) : CallD X J (.builtin "any") oAny := by
  intro pins s σ H xs us Q I r ⟨pr, F, ds, q, st, ia, ho, k⟩
  unfold oAny at ho
  split at ho
  · obtain ⟨a, e, ha⟩ := ia.one_inv
    cases e
    obtain ⟨p1, vs, rfl, h1, a1⟩ := ha.lst_inv st.sub
    obtain ⟨bs, rfl, ho⟩ := ho
    rw [a1.bls] at h1
    exact cr_any hc pins s σ H _ us Q I r ⟨_, bs, rfl, SqL.of h1, ans st k (.bl _) ho⟩
  · exact ho.elim
theorem cd_sum (hc : X.calm = true) : CallD X J (.builtin "sum") oSum := by
  intro pins s σ H xs us Q I r ⟨pr, F, ds, q, st, ia, ho, k⟩
  unfold oSum at ho
  split at ho
  · obtain ⟨a, e, ha⟩ := ia.one_inv
    cases e
    obtain ⟨p1, vs, rfl, h1, a1⟩ := ha.lst_inv st.sub
    obtain ⟨bs, rfl, ho⟩ := ho
    rw [a1.ints] at h1
    exact cr_sum hc pins s σ H _ us Q I r ⟨_, bs, rfl, SqL.of h1, ans st k (.int _) ho⟩
  · exact ho.elim
theorem cd_max (hc : X.calm = true) : CallD X J (.builtin "max") oMax := by
  intro pins s σ H xs us Q I r ⟨pr, F, ds, q, st, ia, ho, k⟩
  unfold oMax at ho
  split at ho
  · obtain ⟨a, e, ha⟩ := ia.one_inv
    cases e
    obtain ⟨p1, vs, rfl, h1, a1⟩ := ha.lst_inv st.sub
    obtain ⟨bs, rfl, hl, ho⟩ := ho
    rw [a1.ints] at h1
    exact cr_max hc pins s σ H _ us Q I r ⟨_, bs, rfl, SqL.of h1, hl, fun m h2 h3 => ans st k (.int _) (ho m h2 h3)⟩
  · obtain ⟨a, b, e, ha, hb⟩ := ia.two_inv
    cases e
    cases ha.int_inv
    cases hb.int_inv
    exact call_max2 hc pins s σ H _ us Q I r ⟨_, _, rfl, ans st k (.int _) ho⟩
  · exact ho.elim
theorem cd_min (hc : X.calm = true) : CallD X J (.builtin "min") oMin := by
  intro pins s σ H xs us Q I r ⟨pr, F, ds, q, st, ia, ho, k⟩
  unfold oMin at ho
  split at ho
  · obtain ⟨a, e, ha⟩ := ia.one_inv
    cases e
    obtain ⟨p1, vs, rfl, h1, a1⟩ := ha.lst_inv st.sub
    obtain ⟨bs, rfl, hl, ho⟩ := ho
    rw [a1.ints] at h1
    exact cr_min hc pins s σ H _ us Q I r ⟨_, bs, rfl, SqL.of h1, hl, fun m h2 h3 => ans st k (.int _) (ho m h2 h3)⟩
  · obtain ⟨a, b, e, ha, hb⟩ := ia.two_inv
    cases e
    cases ha.int_inv
    cases hb.int_inv
    exact call_min2 hc pins s σ H _ us Q I r ⟨_, _, rfl, ans st k (.int _) ho⟩
  · exact ho.elim
end

/-! ### isinstance with a built-in class -/
def tyOf : D → Option String
  | .non => some "NoneType"
  | .bl _ => some "bool"
  | .int _ => some "int"
  | .str _ => some "str"
  | .tup _ => some "tuple"
  | .lst _ => some "list"
  | _ => none
def isiB (a T : String) : Bool := a == T || (a == "bool" && T == "int")
def isiT : List String := ["int", "bool", "tuple", "str", "list"]
theorem kit_isi : ∀ a ∈ ["NoneType", "bool", "int", "str", "tuple", "list"], ∀ T ∈ isiT, kitB a T = some (isiB a T) := by decide +kernel
@[simp] def isiD : D → String → Bool
  | .bl _, T => T == "bool" || T == "int"
  | .int _, T => T == "int"
  | .str _, T => T == "str"
  | .tup _, T => T == "tuple"
  | .lst _, T => T == "list"
  | _, _ => false
@[simp] def isPl : D → Bool
  | .non | .bl _ | .int _ | .str _ | .tup _ | .lst _ => true
  | _ => false
@[simp] def oIsi : Prim
  | [d, .ty T], q => isPl d = true ∧ isiT.contains T = true ∧ q (.bl (isiD d T))
  | _, _ => False
theorem isi_eq {d : D} {T : String} (h : isPl d = true) (hT : T ∈ isiT) : ∃ a, tyOf d = some a ∧ kitB a T = some (isiD d T) := by
  have key : ∀ a ∈ ["NoneType", "bool", "int", "str", "tuple", "list"], kitB a T = some (isiB a T) := fun a ha => kit_isi a ha T hT
  have nn : (("NoneType" : String) == T) = false := by
    simp only [isiT, List.mem_cons, List.not_mem_nil, or_false] at hT
    rcases hT with rfl | rfl | rfl | rfl | rfl <;> decide
  cases d with
  | non => exact ⟨_, rfl, by rw [key _ (by decide)]; simp [isiB, isiD, nn]⟩
  | bl b =>
    refine ⟨_, rfl, by rw [key _ (by decide)]; simp only [isiB, isiD]; congr 1; rw [Bool.beq_comm (a := ("bool" : String))] <;> simp [Bool.beq_comm]⟩
  | int i => exact ⟨_, rfl, by rw [key _ (by decide)]; simp [isiB, isiD, Bool.beq_comm]⟩
  | str x => exact ⟨_, rfl, by rw [key _ (by decide)]; simp [isiB, isiD, Bool.beq_comm]⟩
  | tup xs => exact ⟨_, rfl, by rw [key _ (by decide)]; simp [isiB, isiD, Bool.beq_comm]⟩
  | lst xs => exact ⟨_, rfl, by rw [key _ (by decide)]; simp [isiB, isiD, Bool.beq_comm]⟩
  | ins _ _ => cases h
  | tk _ => cases h
  | ty _ => cases h
  | cls _ => cases h
theorem tyX_of {K : PySem.W.Frag} {mg : Str → Option Value} {F H : Hp} {v : V} {d : D} {a : String} (s : Same F H) (h : IsB K mg F H v d) (e : tyOf d = some a) : TyX K H v (.type a) := by
  cases d with
  | non =>
    cases e
    cases h.non_inv
    exact .base .non
  | bl b =>
    cases e
    cases h.bl_inv
    exact .base (.bl _)
  | int i =>
    cases e
    cases h.int_inv
    exact .base (.int _)
  | str x =>
    cases e
    cases h.str_inv
    exact .base (.str _)
  | tup xs =>
    cases e
    obtain ⟨p, vs, rfl, h1, _⟩ := h.tup_inv
    rcases same_seqT s h1 with (h1 | ⟨o, h1⟩) | ⟨o, its, n, h1, h2, _⟩
    · exact .base (.tup h1)
    · exact .fTuple h1
    · exact .kTuple h1 h2
  | lst xs =>
    cases e
    obtain ⟨p, vs, rfl, h1, _⟩ := h.lst_inv s
    exact .base (.lst h1)
  | ins _ _ => cases e
  | tk _ => cases e
  | ty _ => cases e
  | cls _ => cases e
section
variable {X : Cx} {J : GJ}
theorem cd_isi : CallD X J (.builtin "isinstance") oIsi := by
  intro pins s σ H xs us Q I r ⟨pr, F, ds, q, st, ia, ho, k⟩
  unfold oIsi at ho
  split at ho
  · obtain ⟨a, b, e, ha, hb⟩ := ia.two_inv
    cases e
    cases hb.ty_inv
    obtain ⟨h1, h2, ho⟩ := ho
    obtain ⟨t, e1, e2⟩ := isi_eq h1 (by simpa using h2)
    exact call_isi pins s σ H _ us Q I r ⟨_, _, .type t, .type _, _, rfl, .ty _, tyX_of st.sub ha e1, kit_ty e2, ans st k (.bl _) ho⟩
  · exact ho.elim
end

/-! ### repr -/
mutual
/-- its ints are short enough to be written -/
@[simp] def okS : D → Bool
  | .int i => decide (i.natAbs.log2 < 1920)
  | .tup xs => okSA xs
  | .lst xs => okSA xs
  | _ => true
@[simp] def okSA : List D → Bool
  | [] => true
  | d :: ds => okS d && okSA ds
end
mutual
/-- at most so many signs are written -/
def rl : D → Nat
  | .int _ => 1921
  | .str x => (reprText x).length
  | .tup xs => rlA xs + 4
  | .lst xs => rlA xs + 4
  | _ => 5
def rlA : List D → Nat
  | [] => 0
  | d :: ds => rl d + 2 + rlA ds
end
theorem listText_le (ts : List Str) : (listText ts).length ≤ piled ts + 4 := by
  unfold listText
  rw [strLen_append]
  have e2 : (("]" : String) : Str).length = 1 := rfl
  rw [e2]
  cases ts with
  | nil =>
    show (("[" : String) : Str).length + 1 ≤ _
    have e1 : (("[" : String) : Str).length = 1 := rfl
    omega
  | cons t r =>
    show (textFrom 1 (("[" : Str) ++ (if 0 > 0 then ", " else "" : String) ++ t) r).length + 1 ≤ _
    rw [textFrom_length_pos r 1 _ (by decide), strLen_append, strLen_append, piled_cons]
    have e1 : (("[" : String) : Str).length = 1 := rfl
    have e3 : (((if (0:Nat) > 0 then ", " else "" : String)) : Str).length = 0 := rfl
    rw [e1, e3]
    omega
theorem tupleText_le (ts : List Str) : (tupleText ts).length ≤ piled ts + 4 := by
  unfold tupleText
  rw [strLen_append, strLen_append]
  have e1 : (("(" : String) : Str).length = 1 := rfl
  have e3 : (((if ts.length == 1 then ",)" else ")" : String) : Str)).length ≤ 2 := by split <;> decide
  rw [e1]
  by_cases h : ts = []
  · subst h
    have : (Str.join ", " ([] : List Str)).length = 0 := rfl
    omega
  · have := join_length_add ts h
    omega
mutual
theorem shown_le : ∀ (d : D) (p : PyData), toPy d = some p → okS d = true → p.shown.length ≤ rl d
  | .non, _, e, _ => by
    cases e
    simp only [PyData.shown, rl]
    decide
  | .bl b, _, e, _ => by
    cases e
    simp only [PyData.shown, rl]
    cases b <;> decide
  | .int i, _, e, h => by
    cases e
    simp only [PyData.shown, rl]
    exact int_text_len_1921 (by simpa [okS] using h)
  | .str x, _, e, _ => by
    cases e
    simp only [PyData.shown, rl]
    exact Nat.le_refl _
  | .tup xs, _, e, h => by
    simp only [toPy, Option.map_eq_some_iff] at e
    obtain ⟨ps, e1, rfl⟩ := e
    simp only [PyData.shown, rl]
    have := shownA_le xs ps e1 (by simpa [okS] using h)
    have := tupleText_le (PyData.shownAll ps)
    omega
  | .lst xs, _, e, h => by
    simp only [toPy, Option.map_eq_some_iff] at e
    obtain ⟨ps, e1, rfl⟩ := e
    simp only [PyData.shown, rl]
    have := shownA_le xs ps e1 (by simpa [okS] using h)
    have := listText_le (PyData.shownAll ps)
    omega
  | .ins _ _, _, e, _ => by simp [toPy] at e
  | .tk _, _, e, _ => by simp [toPy] at e
  | .ty _, _, e, _ => by simp [toPy] at e
  | .cls _, _, e, _ => by simp [toPy] at e
theorem shownA_le : ∀ (ds : List D) (ps : List PyData), toPyA ds = some ps → okSA ds = true → piled (PyData.shownAll ps) ≤ rlA ds
  | [], _, e, _ => by
    simp [toPyA] at e
    subst e
    simp [PyData.shownAll, piled, rlA]
  | d :: ds, _, e, h => by
    unfold toPyA at e
    split at e
    · rename_i p ps e1 e2
      cases e
      simp only [okSA, Bool.and_eq_true] at h
      simp only [PyData.shownAll, piled_cons, rlA]
      have := shown_le d p e1 h.1
      have := shownA_le ds ps e2 h.2
      omega
    · cases e
end
mutual
theorem showable_of : ∀ (d : D) (p : PyData), toPy d = some p → okS d = true → p.showable = true
  | .non, _, e, _ => by
    cases e
    simp [PyData.showable]
  | .bl b, _, e, _ => by
    cases e
    simp [PyData.showable]
  | .int i, _, e, h => by
    cases e
    simpa [PyData.showable, okS] using h
  | .str x, _, e, _ => by
    cases e
    simp [PyData.showable]
  | .tup xs, _, e, h => by
    simp only [toPy, Option.map_eq_some_iff] at e
    obtain ⟨ps, e1, rfl⟩ := e
    simp only [PyData.showable]
    exact showableA_of xs ps e1 (by simpa [okS] using h)
  | .lst xs, _, e, h => by
    simp only [toPy, Option.map_eq_some_iff] at e
    obtain ⟨ps, e1, rfl⟩ := e
    simp only [PyData.showable]
    exact showableA_of xs ps e1 (by simpa [okS] using h)
  | .ins _ _, _, e, _ => by simp [toPy] at e
  | .tk _, _, e, _ => by simp [toPy] at e
  | .ty _, _, e, _ => by simp [toPy] at e
  | .cls _, _, e, _ => by simp [toPy] at e
theorem showableA_of : ∀ (ds : List D) (ps : List PyData), toPyA ds = some ps → okSA ds = true → PyData.showableAll ps = true
  | [], _, e, _ => by
    simp [toPyA] at e
    subst e
    simp [PyData.showableAll]
  | d :: ds, _, e, h => by
    unfold toPyA at e
    split at e
    · rename_i p ps e1 e2
      cases e
      simp only [okSA, Bool.and_eq_true] at h
      simp only [PyData.showableAll, Bool.and_eq_true]
      exact ⟨showable_of d p e1 h.1, showableA_of ds ps e2 h.2⟩
    · cases e
end
def shownD (d : D) : Str := match toPy d with
  | some p => p.shown
  | none => ""
@[simp] def oRepr : Prim
  | [d], q => okE 60 d = true ∧ okS d = true ∧ rl d ≤ sizeLine ∧ q (.str (shownD d))
  | _, _ => False
section
variable {X : Cx} {J : GJ}
theorem cd_repr (hg : X.A.guards = some []) (hu : X.A.units + 64 < cLine) : CallD X J (.builtin "repr") oRepr := by
  intro pins s σ H xs us Q I r ⟨pr, F, ds, q, st, ia, ho, k⟩
  unfold oRepr at ho
  split at ho
  · rename_i q0 d
    obtain ⟨a, e, ha⟩ := ia.one_inv
    cases e
    obtain ⟨u, rfl, ru⟩ := vals1 r
    obtain ⟨h1, h2, h3, ho⟩ := ho
    obtain ⟨p, e1, c1, c2⟩ := okE_py d 60 h1
    have hz : p.shown.length ≤ sizeLine := Nat.le_trans (shown_le d p e1 h2) h3
    have hsh : shownD d = p.shown := by
      unfold shownD
      rw [e1]
    rw [hsh] at ho
    have dp := ha.toDp st.sub e1
    obtain ⟨as, rd⟩ := Dp.reads I p a u dp ru
    have fin : ∀ h' tk t, (∀ b o, s.heap.get? b = some o → h'.get? b = some o) → EP X pins σ Q (.str p.shown t) { s with heap := h', toks := tk } := fun h' tk t hk =>
      ⟨.str p.shown, H, I.kept hk, ⟨_, rfl⟩, ans st k (.str _) ho⟩
    cases dp with
    | non =>
      cases ru
      exact PySem.P.repr_of_none (by simpa [PyData.shown] using fin s.heap _ _ fun _ _ e => e)
    | bl b =>
      cases ru
      exact PySem.P.repr_of_bool (by simpa [PyData.shown] using fin s.heap _ _ fun _ _ e => e)
    | int i =>
      obtain ⟨t, rfl⟩ := ru
      have hi : i.natAbs.log2 < 1920 := by
        have := showable_of d _ e1 h2
        simpa [PyData.showable] using this
      exact PySem.P.repr_of_int hi (by simpa [PyData.shown] using fin s.heap _ _ fun _ _ e => e)
    | str x =>
      obtain ⟨t, rfl⟩ := ru
      exact PySem.P.repr_of_str (by simpa [PyData.shown] using fin s.heap _ _ fun _ _ e => e) (by simpa [PyData.shown] using hz)
    | lst hs hd =>
      cases ru
      exact repr_of_reads' rd (showable_of d _ e1 h2) (PyData.noDict_hsm (PyData.hasDict_of_canLay _ c1)) hg (by omega) (fun _ _ e => e) (fun h' t tk hk => fin h' tk t hk) hz
    | tup hs hd =>
      cases ru
      exact repr_of_reads' rd (showable_of d _ e1 h2) (PyData.noDict_hsm (PyData.hasDict_of_canLay _ c1)) hg (by omega) (fun _ _ e => e) (fun h' t tk hk => fin h' tk t hk) hz
  · exact ho.elim
end
end DL

/-! DL3: what the slots hold, and calls of defs where nothing is being written out (no guard). -/
namespace DL
open PySem PySem.Spec PyProof.Rows L2

/-! ### slots -/
/-- what a slot holds: nothing that is told, data, a list of its own, a dict of its own (keys ints and texts, or tuples of them) -/
inductive Sl where
  | no
  | val (d : D)
  | own (xs : List D)
  | lat (a : Addr) (xs : List D)
  | dk (kvs : List (Key × D))
  | dt (kvs : List (List Key × D))
abbrev En := List Sl
def Sl.isOwn : Sl → Bool
  | .own _ | .lat _ _ | .dk _ | .dt _ => true
  | _ => false
abbrev IsKV {κ : Type} (K : PySem.W.Frag) (mg : Str → Option Value) (F : Hp) : List (κ × V) → List (κ × D) → Prop := Paired fun p q => p.1 = q.1 ∧ Is K mg F p.2 q.2
theorem IsKV.mono {κ : Type} {K : PySem.W.Frag} {mg : Str → Option Value} {F F' : Hp} (e : Same F F') {ws : List (κ × V)} {kvs : List (κ × D)} (h : IsKV K mg F ws kvs) : IsKV K mg F' ws kvs :=
  Paired.mapP h fun _ _ ⟨a, b⟩ => ⟨a, b.mono e⟩
structure Mine (J : GJ) (pr F : Hp) (p : Addr) : Prop where
  f : F p = none
  q : pr p = none
  m : ¬ J.mt p
structure IsAt (K : PySem.W.Frag) (mg : Str → Option Value) (F : Hp) (p a : Addr) (vs : List V) (xs : List D) : Prop where
  ia : IsA K mg F vs xs
  eq : p = a
theorem IsAt.mono {K : PySem.W.Frag} {mg : Str → Option Value} {F F' : Hp} {p a : Addr} {vs : List V} {xs : List D} (h : IsAt K mg F p a vs xs) (e : Same F F') : IsAt K mg F' p a vs xs := ⟨h.ia.mono e, h.eq⟩
def SlOk (K : PySem.W.Frag) (mg : Str → Option Value) (J : GJ) (pr F H : Hp) (o : Option V) : Sl → Prop
  | .no => True
  | .val d => ∃ v, o = some v ∧ Is K mg F v d
  | .own xs => ∃ p vs, o = some (.ref p) ∧ H p = some (.lst vs) ∧ IsA K mg F vs xs ∧ Mine J pr F p
  | .lat a xs => ∃ p vs, o = some (.ref p) ∧ H p = some (.lst vs) ∧ IsAt K mg F p a vs xs ∧ Mine J pr F p
  | .dk kvs => ∃ p ws, o = some (.ref p) ∧ H p = some (.dK ws) ∧ IsKV K mg F ws kvs ∧ Mine J pr F p
  | .dt kvs => ∃ p ws, o = some (.ref p) ∧ H p = some (.dT ws) ∧ IsKV K mg F ws kvs ∧ Mine J pr F p
structure Rep (K : PySem.W.Frag) (mg : Str → Option Value) (J : GJ) (pr : Hp) (env : En) (σ : L2.St) (F H : Hp) : Prop where
  st : St8 J pr F H
  len : env.length = σ.length
  sl : ∀ (i : Nat) (s : Sl) (o : Option V), env[i]? = some s → σ[i]? = some o → SlOk K mg J pr F H o s
  dis : ∀ (i j : Nat) (s t : Sl), i ≠ j → env[i]? = some s → env[j]? = some t → s.isOwn = true → t.isOwn = true → σ[i]? ≠ σ[j]?
section
variable {K : PySem.W.Frag} {mg : Str → Option Value} {J : GJ} {pr F H F' H' : Hp} {env : En} {σ : L2.St} {o : Option V} {s : Sl}
theorem SlOk.stp (a : St8 J pr F H) (t : Stp J pr F H F' H') (h : SlOk K mg J pr F H o s) : SlOk K mg J pr F' H' o s := by
  cases s with
  | no => trivial
  | val d =>
    obtain ⟨v, e, i⟩ := h
    exact ⟨v, e, i.mono t.ff⟩
  | own xs =>
    obtain ⟨p, vs, e, h1, i, m⟩ := h
    exact ⟨p, vs, e, t.hh p _ m.m nt_lst h1, i.mono t.ff, t.nf p _ nt_lst h1 m.f, m.q, m.m⟩
  | lat a0 xs =>
    obtain ⟨p, vs, e, h1, i, m⟩ := h
    exact ⟨p, vs, e, t.hh p _ m.m nt_lst h1, i.mono t.ff, t.nf p _ nt_lst h1 m.f, m.q, m.m⟩
  | dk kvs =>
    obtain ⟨p, vs, e, h1, i, m⟩ := h
    exact ⟨p, vs, e, t.hh p _ m.m nt_dK h1, i.mono t.ff, t.nf p _ nt_dK h1 m.f, m.q, m.m⟩
  | dt kvs =>
    obtain ⟨p, vs, e, h1, i, m⟩ := h
    exact ⟨p, vs, e, t.hh p _ m.m nt_dT h1, i.mono t.ff, t.nf p _ nt_dT h1 m.f, m.q, m.m⟩
theorem Rep.stp (R : Rep K mg J pr env σ F H) (t : Stp J pr F H F' H') : Rep K mg J pr env σ F' H' :=
  ⟨t.st, R.len, fun i s o e1 e2 => (R.sl i s o e1 e2).stp R.st t, R.dis⟩
theorem Rep.at (R : Rep K mg J pr env σ F H) {i : Nat} (e : env[i]? = some s) : ∃ o, σ[i]? = some o ∧ SlOk K mg J pr F H o s := by
  have hi : i < σ.length := by
    rw [← R.len]
    exact (List.getElem?_eq_some_iff.mp e).1
  exact ⟨σ[i], List.getElem?_eq_getElem hi, R.sl i s _ e (List.getElem?_eq_getElem hi)⟩
/-- the address of an owned slot is nobody else's -/
theorem Rep.alone (R : Rep K mg J pr env σ F H) {i j : Nat} {t : Sl} {p : Addr} (ne : i ≠ j) (e : env[i]? = some s) (hs : s.isOwn = true) (es : σ[i]? = some (some (.ref p))) (ej : env[j]? = some t) (ht : t.isOwn = true) {q : Addr} (eq : σ[j]? = some (some (.ref q))) : q ≠ p := fun z => by
  subst z
  exact R.dis i j s t ne e ej hs ht (es.trans eq.symm)
/-- a slot's own object changes (σ stays): to another content of the same slot -/
theorem Rep.write (R : Rep K mg J pr env σ F H) {i : Nat} {p : Addr} {u : HO} {s' : Sl} (e : env[i]? = some s) (hs : s.isOwn = true) (es : σ[i]? = some (some (.ref p))) (m : Mine J pr F p)
    (new : SlOk K mg J pr F (upd H p u) (some (.ref p)) s') : Rep K mg J pr (env.set i s') σ F (upd H p u) := by
  have hi : i < env.length := (List.getElem?_eq_some_iff.mp e).1
  have hx : ∀ φ, H p ≠ some (.ext φ) := fun φ z => by
    have h := R.sl i s _ e es
    cases s with
    | no => cases hs
    | val d => cases hs
    | own xs =>
      obtain ⟨q, vs, eo, h1, _⟩ := h
      cases eo
      rw [h1] at z
      cases z
    | lat a0 xs =>
      obtain ⟨q, vs, eo, h1, _⟩ := h
      cases eo
      rw [h1] at z
      cases z
    | dk kvs =>
      obtain ⟨q, vs, eo, h1, _⟩ := h
      cases eo
      rw [h1] at z
      cases z
    | dt kvs =>
      obtain ⟨q, vs, eo, h1, _⟩ := h
      cases eo
      rw [h1] at z
      cases z
  refine ⟨R.st.write m.f m.q m.m hx, by rw [List.length_set]; exact R.len, fun j t o e1 e2 => ?_, fun j k t t' ne e1 e2 ht ht' => ?_⟩
  · by_cases hj : i = j
    · subst hj
      rw [List.getElem?_set_self hi] at e1
      cases e1
      rw [es] at e2
      cases e2
      exact new
    · rw [List.getElem?_set_ne hj] at e1
      have h := R.sl j t o e1 e2
      cases t with
      | no => trivial
      | val d => exact h
      | own xs =>
        obtain ⟨q, vs, eo, h1, a, m'⟩ := h
        exact ⟨q, vs, eo, by rw [upd_ne (R.alone hj e hs es e1 rfl (by rw [e2, eo]))]; exact h1, a, m'⟩
      | lat a0 xs =>
        obtain ⟨q, vs, eo, h1, a, m'⟩ := h
        exact ⟨q, vs, eo, by rw [upd_ne (R.alone hj e hs es e1 rfl (by rw [e2, eo]))]; exact h1, a, m'⟩
      | dk kvs =>
        obtain ⟨q, vs, eo, h1, a, m'⟩ := h
        exact ⟨q, vs, eo, by rw [upd_ne (R.alone hj e hs es e1 rfl (by rw [e2, eo]))]; exact h1, a, m'⟩
      | dt kvs =>
        obtain ⟨q, vs, eo, h1, a, m'⟩ := h
        exact ⟨q, vs, eo, by rw [upd_ne (R.alone hj e hs es e1 rfl (by rw [e2, eo]))]; exact h1, a, m'⟩
  · have own : ∀ {j : Nat} {t : Sl}, (env.set i s')[j]? = some t → t.isOwn = true → ∃ t0, env[j]? = some t0 ∧ t0.isOwn = true := fun {j t} ej ht => by
      by_cases hj : i = j
      · subst hj
        exact ⟨s, e, hs⟩
      · rw [List.getElem?_set_ne hj] at ej
        exact ⟨t, ej, ht⟩
    obtain ⟨t0, f1, f2⟩ := own e1 ht
    obtain ⟨t1, g1, g2⟩ := own e2 ht'
    exact R.dis j k t0 t1 ne f1 g1 f2 g2
/-- a slot's own list is laid down for good -/
theorem Rep.freeze (R : Rep K mg J pr env σ F H) {i : Nat} {xs : List D} (e : env[i]? = some (.own xs)) : ∃ p F', σ[i]? = some (some (.ref p)) ∧ Same F F' ∧ Is K mg F' (.ref p) (.lst xs) ∧ Rep K mg J pr (env.set i (.val (.lst xs))) σ F' H := by
  obtain ⟨o, eo, p, vs, rfl, h1, a, m⟩ := R.at e
  have hi : i < env.length := (List.getElem?_eq_some_iff.mp e).1
  have sm : Same F (upd F p (.lst vs)) := same_upd' m.f
  have new : Is K mg (upd F p (.lst vs)) (.ref p) (.lst xs) := .lst upd_same (a.mono sm)
  refine ⟨p, upd F p (.lst vs), eo, sm, new, R.st.freeze h1 m.f m.q m.m nt_lst, by rw [List.length_set]; exact R.len, fun j t o e1 e2 => ?_, fun j k t t' ne e1 e2 ht ht' => ?_⟩
  · by_cases hj : i = j
    · subst hj
      rw [List.getElem?_set_self hi] at e1
      cases e1
      rw [eo] at e2
      cases e2
      exact ⟨_, rfl, new⟩
    · rw [List.getElem?_set_ne hj] at e1
      have h := R.sl j t o e1 e2
      cases t with
      | no => trivial
      | val d =>
        obtain ⟨v, ev, iv⟩ := h
        exact ⟨v, ev, iv.mono sm⟩
      | own xs =>
        obtain ⟨q, vs, eq, h1, a, m'⟩ := h
        exact ⟨q, vs, eq, h1, a.mono sm, by rw [upd_ne (R.alone hj e rfl eo e1 rfl (by rw [e2, eq]))]; exact m'.f, m'.q, m'.m⟩
      | lat a0 xs =>
        obtain ⟨q, vs, eq, h1, a, m'⟩ := h
        exact ⟨q, vs, eq, h1, a.mono sm, by rw [upd_ne (R.alone hj e rfl eo e1 rfl (by rw [e2, eq]))]; exact m'.f, m'.q, m'.m⟩
      | dk kvs =>
        obtain ⟨q, vs, eq, h1, a, m'⟩ := h
        exact ⟨q, vs, eq, h1, a.mono sm, by rw [upd_ne (R.alone hj e rfl eo e1 rfl (by rw [e2, eq]))]; exact m'.f, m'.q, m'.m⟩
      | dt kvs =>
        obtain ⟨q, vs, eq, h1, a, m'⟩ := h
        exact ⟨q, vs, eq, h1, a.mono sm, by rw [upd_ne (R.alone hj e rfl eo e1 rfl (by rw [e2, eq]))]; exact m'.f, m'.q, m'.m⟩
  · have own : ∀ {j : Nat} {t : Sl}, (env.set i (.val (.lst xs)))[j]? = some t → t.isOwn = true → env[j]? = some t := fun {j t} ej ht => by
      by_cases hj : i = j
      · subst hj
        rw [List.getElem?_set_self hi] at ej
        cases ej
        cases ht
      · rw [List.getElem?_set_ne hj] at ej
        exact ej
    exact R.dis j k t t' ne (own e1 ht) (own e2 ht') ht ht'
/-- a slot is stored -/
theorem Rep.store (R : Rep K mg J pr env σ F H) {i : Nat} {v : V} {d : D} (h : Is K mg F v d) : Rep K mg J pr (env.set i (.val d)) (σ.set i (some v)) F H := by
  refine ⟨R.st, by rw [List.length_set, List.length_set]; exact R.len, fun j t o e1 e2 => ?_, fun j k t t' ne e1 e2 ht ht' => ?_⟩
  · by_cases hj : i = j
    · subst hj
      obtain ⟨hl, e1⟩ := List.getElem?_eq_some_iff.mp e1
      obtain ⟨hl', e2⟩ := List.getElem?_eq_some_iff.mp e2
      simp only [List.getElem_set_self] at e1 e2
      subst e1 e2
      exact ⟨v, rfl, h⟩
    · rw [List.getElem?_set_ne hj] at e1 e2
      exact R.sl j t o e1 e2
  · have own : ∀ {j : Nat} {t : Sl}, (env.set i (.val d))[j]? = some t → t.isOwn = true → i ≠ j ∧ env[j]? = some t := fun {j t} ej ht => by
      by_cases hj : i = j
      · subst hj
        obtain ⟨hl, ej⟩ := List.getElem?_eq_some_iff.mp ej
        simp only [List.getElem_set_self] at ej
        subst ej
        cases ht
      · rw [List.getElem?_set_ne hj] at ej
        exact ⟨hj, ej⟩
    obtain ⟨n1, f1⟩ := own e1 ht
    obtain ⟨n2, f2⟩ := own e2 ht'
    rw [List.getElem?_set_ne n1, List.getElem?_set_ne n2]
    exact R.dis j k t t' ne f1 f2 ht ht'
/-- a slot is given an object just made, its own -/
theorem Rep.storeOwn (R : Rep K mg J pr env σ F H) {i : Nat} {p : Addr} {u : HO} {s' : Sl} (n : H p = none) (hs' : s'.isOwn = true) (new : SlOk K mg J pr F (upd H p u) (some (.ref p)) s') :
    Rep K mg J pr (env.set i s') (σ.set i (some (.ref p))) F (upd H p u) := by
  have t := R.st.made (o := u) n
  have R' := R.stp t
  have apart : ∀ {j : Nat} {t : Sl} {o : Option V}, env[j]? = some t → t.isOwn = true → σ[j]? = some o → o ≠ some (.ref p) := fun {j t o} e1 ht e2 z => by
    subst z
    have h := R.sl j t _ e1 e2
    cases t with
    | no => cases ht
    | val d => cases ht
    | own xs =>
      obtain ⟨q, vs, eq, h1, _⟩ := h
      cases eq
      rw [n] at h1
      cases h1
    | lat a0 xs =>
      obtain ⟨q, vs, eq, h1, _⟩ := h
      cases eq
      rw [n] at h1
      cases h1
    | dk xs =>
      obtain ⟨q, vs, eq, h1, _⟩ := h
      cases eq
      rw [n] at h1
      cases h1
    | dt xs =>
      obtain ⟨q, vs, eq, h1, _⟩ := h
      cases eq
      rw [n] at h1
      cases h1
  refine ⟨t.st, by rw [List.length_set, List.length_set]; exact R.len, fun j t o e1 e2 => ?_, fun j k t t' ne e1 e2 ht ht' => ?_⟩
  · by_cases hj : i = j
    · subst hj
      obtain ⟨hl, e1⟩ := List.getElem?_eq_some_iff.mp e1
      obtain ⟨hl', e2⟩ := List.getElem?_eq_some_iff.mp e2
      simp only [List.getElem_set_self] at e1 e2
      subst e1 e2
      exact new
    · rw [List.getElem?_set_ne hj] at e1 e2
      exact R'.sl j t o e1 e2
  · have here : ∀ {j : Nat} {t : Sl}, (env.set i s')[j]? = some t → i = j → (σ.set i (some (V.ref p)))[j]? = some (some (.ref p)) := fun {j t} ej hj => by
      subst hj
      obtain ⟨hl, _⟩ := List.getElem?_eq_some_iff.mp ej
      rw [List.length_set] at hl
      exact List.getElem?_set_self (by rw [← R.len]; exact hl)
    have there : ∀ {j : Nat} {t : Sl}, (env.set i s')[j]? = some t → t.isOwn = true → i ≠ j → (σ.set i (some (V.ref p)))[j]? = σ[j]? ∧ env[j]? = some t ∧ ∃ o, σ[j]? = some o ∧ o ≠ some (.ref p) := fun {j t} ej ht hj => by
      rw [List.getElem?_set_ne hj] at ej
      obtain ⟨o, eo, _⟩ := R.at ej
      exact ⟨List.getElem?_set_ne hj, ej, o, eo, apart ej ht eo⟩
    by_cases hj : i = j
    · have hk : i ≠ k := fun z => ne (hj.symm.trans z)
      rw [here e1 hj]
      obtain ⟨f1, f2, o, f3, f4⟩ := there e2 ht' hk
      rw [f1, f3]
      exact fun z => f4 (Option.some.inj z).symm
    · obtain ⟨f1, f2, o, f3, f4⟩ := there e1 ht hj
      by_cases hk : i = k
      · rw [here e2 hk, f1, f3]
        exact fun z => f4 (Option.some.inj z)
      · obtain ⟨g1, g2, _⟩ := there e2 ht' hk
        rw [f1, g1]
        exact R.dis j k t t' ne f2 g2 ht ht'
end

/-! ### defs, called where no object is being written out -/
/-- room for k calls deep; g: and no object is being written out -/
structure Rm (g : Bool) (k : Nat) (A : Around) : Prop where
  rm : Room k A
  gd : g = true → A.guards = some []
theorem Rm.mono {g : Bool} {j k : Nat} {A : Around} (r : Rm g k A) (h : j ≤ k) : Rm g j A := ⟨r.rm.mono h, r.gd⟩
theorem Rm.deeper {g : Bool} {k : Nat} {A : Around} (r : Rm g (k + 1) A) (env : Env) : Rm g k (A.deeper env) := ⟨r.rm.deeper env, r.gd⟩
structure FnG (g : Bool) (P : Program) (w : World) (K : PySem.W.Frag) (mg : Str → Option Value) (base : Heap) (CX : CXT) (k : Nat) (f : Addr) (fd : FuncData) (ps : List Str) (sp : Sp) : Prop where
  len : ∀ vs H Q E, sp vs H Q E → vs.length = ps.length
  run : ∀ (A : Around) (outer : List Env) (s : Shared) (H : Hp) (ar : Args) (us : List Value) (vs : List V) (Q : VK) (E : XK), Rm g k A → Env0 P w K mg base A outer s H → BindsTo s fd ar (ps.zip us) → Vals vs us → sp vs H Q E →
    codeAny (model P w) A (.call (.ref f) ar) (CR CX outer P w H s Q E) s
section
variable {g : Bool} {P : Program} {w : World} {K : PySem.W.Frag} {mg : Str → Option Value} {base : Heap} {CX : CXT}
theorem FnG.mono {j k : Nat} {f : Addr} {fd : FuncData} {ps : List Str} {sp : Sp} (F : FnG g P w K mg base CX j f fd ps sp) (h : j ≤ k) : FnG g P w K mg base CX k f fd ps sp :=
  ⟨F.len, fun A o s H ar us vs Q E r => F.run A o s H ar us vs Q E (r.mono h)⟩
theorem fnG_lk {k : Nat} {f : Addr} {x qual : Str} {st : Stmt} {N ps : List Str} {sp : Sp} {oc kV doc pm cd ct : Value} {od an : Option Addr} {osl : Array (Option Value)} (lk : K.lookup f = some ⟨oc, od, .func (PySem.W.fnOf x qual (defArgs st) (defBody st) (defScope st) .none kV doc pm an cd ct), osl⟩) (hcd : PySem.W.codeIn K cd qual = true)
    (S : FnScope N ps (defScope st)) (len : ∀ vs H Q E, sp vs H Q E → vs.length = ps.length)
    (hb : ∀ (A : Around) (outer : List Env) (s : Shared) (H : Hp) (vs : List V) (Q : VK) (E : XK), Rm g k (A.deeper (envOfC qual (defScope st) s.heap.objs.size f cd)) → sp vs H Q E →
      ∃ t, PSs (cxOf CX P w K mg base N qual (defScope st) f cd A outer s H E) (defBody st) t ∧ t { nx := fun _ H' => Q .non H', rt := Q } (start N vs) H) : FnG g P w K mg base CX (k + 1) f (PySem.W.fnOf x qual (defArgs st) (defBody st) (defScope st) .none kV doc pm an cd ct) ps sp := by
  refine ⟨len, fun A outer s H ar us vs Q E hr e0 hbd r hsp => ?_⟩
  have hl := len _ _ _ _ hsp
  have up : ∀ b o, base.get? b = some o → s.heap.get? b = some o := fun b o e => (e0.bs b o e).1
  have KX : K.In s.heap := e0.mod.kin.keeps up
  have kinds : ∀ y ∈ ps.zip us, (defScope st).names.lookup y.1 = some .local ∨ ((defScope st).names.lookup y.1 = some .cell ∧ ((cellsFrom (s.heap.objs.size + 1) (defScope st).names []).lookup y.1).isSome = true) := by
    rintro ⟨n, v⟩ hy
    exact (S.par n (List.of_mem_zip hy).1).elim .inl fun q => .inr ⟨q, PySem.W.cellsFrom_some _ _ _ (.inl q)⟩
  refine codeAny_call_function hr.rm.depth (KX _ _ lk) rfl S.co S.gen rfl (PySem.W.codeRec_of KX hcd) (hbd _ _ _ _ (wpAny_newFunctionEnv_cells S.kind kinds fun env he s1 z => ?_))
  subst he
  refine ⟨(e0.mod.nolimit.keeps up).keeps z.toInCall.keep, codeAny_func ?_⟩
  obtain ⟨t, ht, hq⟩ := hb A outer s H vs Q E (hr.deeper _) hsp
  have I := inv_start (CX := CX) (E := E) (cd := cd) S hr.rm.hd e0 hl r z
  refine wpAny_mono (ht.run [] s1 (start N vs) H _ I hq) (fun fl s' hs => ?_) fun _ _ hs => hs
  cases fl with
  | ret u =>
    obtain ⟨v, _, H', J, rv, q⟩ := hs
    exact ⟨v, H', J.os, J.bare, J.base, J.hok, rv, q⟩
  | next =>
    obtain ⟨_, H', J, q⟩ := hs
    exact ⟨.non, H', J.os, J.bare, J.base, J.hok, rfl, q⟩
  | brk =>
    obtain ⟨_, _, _, q⟩ := hs
    exact q.elim
  | cont =>
    obtain ⟨_, _, _, q⟩ := hs
    exact q.elim
theorem fnG_of {k : Nat} {f : Addr} {x qual : Str} {st : Stmt} {fd : FuncData} {N ps : List Str} {sp : Sp} (Fu : L2.Fun K x qual st f fd) (S : FnScope N ps (defScope st)) (len : ∀ vs H Q E, sp vs H Q E → vs.length = ps.length)
    (hb : ∀ (cd : Value) (A : Around) (outer : List Env) (s : Shared) (H : Hp) (vs : List V) (Q : VK) (E : XK), Rm g k (A.deeper (envOfC qual (defScope st) s.heap.objs.size f cd)) → sp vs H Q E →
      ∃ t, PSs (cxOf CX P w K mg base N qual (defScope st) f cd A outer s H E) (defBody st) t ∧ t { nx := fun _ H' => Q .non H', rt := Q } (start N vs) H) : FnG g P w K mg base CX (k + 1) f fd ps sp := by
  obtain ⟨oc, od, kV, doc, pm, an, cd, ct, osl, rfl, lk, hcd⟩ := Fu.ex
  exact fnG_lk lk hcd S len fun A outer s H vs Q E => hb cd A outer s H vs Q E
end
section
variable {g : Bool} {X : Cx} {CX : CXT} {k : Nat} {f : Addr} {fd : FuncData} {ps : List Str} {sp : Sp} {E : XK} {x : Str} {p pos : Pos} {e : Expr} {es : List Expr} {t : TA}
theorem run_fnG {pins : List (Addr × Obj)} {σ : L2.St} {H : Hp} {s : Shared} {Q : VK} {us : List Value} {vs : List V} (F : FnG g X.prog X.w X.K X.mg X.base CX k f fd ps sp) (hr : Rm g k X.A) (hb : Binds X.K fd ps []) (hx : Passes CX X E)
    (I : L2.Inv X pins σ H s) (r : Vals vs us) (h : sp vs H Q E) : wpAny (model X.prog X.w) X.A (call (.ref f) us) (EP X pins σ Q) X.xe s := by
  have hl : us.length = ps.length := r.length.symm.trans (F.len _ _ _ _ h)
  have hbs := hb s us I.kIn (by rw [List.append_nil]; exact hl)
  rw [List.append_nil] at hbs
  refine wpAny_call (codeAny_mono (F.run X.A X.stack s H ⟨us, []⟩ us vs Q E hr I.env0 hbs r h) fun z s' hq => ?_)
  rcases z with e | fl
  · exact hx pins σ H s e s' I hq
  · cases fl with
    | ret u => exact I.after hq
    | next => exact hq.elim
    | brk => exact hq.elim
    | cont => exact hq.elim
theorem pe_callG (F : FnG g X.prog X.w X.K X.mg X.base CX k f fd ps sp) (hr : Rm g k X.A) (hg : Gl X x) (hm : X.mg x = some (.ref f)) (hk : PySem.W.keepIn X.K (.ref f) = true) (hb : Binds X.K fd ps []) (hx : Passes CX X E) (ha : PA X (e :: es) t)
    (hdb : (x == ("__debug__" : Str)) = false := by decide) (he : starEach (e :: es) X.env = (false, eval e X.env) :: starEach es X.env := by rfl) (hpl : (backTo pos (starEach es X.env)).any (·.1) = false := by rfl) :
    PE X (.Call (.Name x p) (e :: es) [] pos) (fun σ H Q => t σ H fun vs H1 => sp vs H1 Q E) :=
  ⟨fun pins s σ H Q I h => wpAny_Call_Name_kw (ld_glob I hg hm (PySem.W.callWith_K (h₀ := X.base) I.ok.mod.kin hk (thn (ha.run pos pins s σ H _ I h) fun us s1 ⟨vs, H1, I1, r, q⟩ => ⟨I1.kIn, run_fnG F hr hb hx I1 r q⟩) he hpl) hdb)⟩
theorem pe_callG0 (F : FnG g X.prog X.w X.K X.mg X.base CX k f fd ps sp) (hr : Rm g k X.A) (hg : Gl X x) (hm : X.mg x = some (.ref f)) (hk : PySem.W.keepIn X.K (.ref f) = true) (hb : Binds X.K fd ps []) (hx : Passes CX X E)
    (hdb : (x == ("__debug__" : Str)) = false := by decide) : PE X (.Call (.Name x p) [] [] pos) (fun σ H Q => sp [] H Q E) :=
  ⟨fun pins s σ H Q I h => wpAny_Call_Name_kw (ld_glob I hg hm (PySem.W.callWith_K0 I.kIn hk (run_fnG (us := []) F hr hb hx I .nil h)) hdb)⟩
end
end DL

/-! DL4: expressions by data. -/
namespace DL
open PySem PySem.Spec PyProof.Rows L2

/-- an argument: data, or the thing that a slot owns, as it stands -/
inductive Ar where
  | d (d : D)
  | b (i : Nat)
abbrev WE := En → (D → En → Prop) → Prop
abbrev WB := En → (Ar → En → Prop) → Prop
abbrev WA := En → (List Ar → En → Prop) → Prop
abbrev WT := En → (Bool → En → Prop) → Prop
abbrev WO := En → (Option Int → En → Prop) → Prop

@[simp] def res1 (env : En) : Ar → Option D
  | .d d => some d
  | .b i => match env[i]? with
    | some (.val d) => some d
    | some (.own xs) => some (.lst xs)
    | some (.lat _ xs) => some (.lst xs)
    | _ => none
@[simp] def resA (env : En) : List Ar → Option (List D)
  | [] => some []
  | a :: as => match res1 env a, resA env as with
    | some d, some ds => some (d :: ds)
    | _, _ => none
@[simp] def reals : List Ar → Option (List D)
  | [] => some []
  | .d d :: as => (reals as).map (d :: ·)
  | .b _ :: _ => none

section
variable (K : PySem.W.Frag) (mg : Str → Option Value) (J : GJ) (pr : Hp)
def IsR (F : Hp) (σ : L2.St) (v : V) : Ar → Prop
  | .d d => Is K mg F v d
  | .b i => σ[i]? = some (some v)
abbrev IsRA (F : Hp) (σ : L2.St) : List V → List Ar → Prop := Paired (IsR K mg F σ)
def tE (w : WE) : TE := fun σ H Q => ∃ (env : En) (F : Hp) (q : D → En → Prop), Rep K mg J pr env σ F H ∧ w env q ∧
  ∀ d env' v F' H', Rep K mg J pr env' σ F' H' → Same F F' → Is K mg F' v d → q d env' → Q v H'
def tBo (w : WB) : TE := fun σ H Q => ∃ (env : En) (F : Hp) (q : Ar → En → Prop), Rep K mg J pr env σ F H ∧ w env q ∧
  ∀ a env' v F' H', Rep K mg J pr env' σ F' H' → Same F F' → IsR K mg F' σ v a → q a env' → Q v H'
def tAr (w : WA) : TA := fun σ H Q => ∃ (env : En) (F : Hp) (q : List Ar → En → Prop), Rep K mg J pr env σ F H ∧ w env q ∧
  ∀ as env' vs F' H', Rep K mg J pr env' σ F' H' → Same F F' → IsRA K mg F' σ vs as → q as env' → Q vs H'
def tTs (w : WT) : TT := fun σ H Q => ∃ (env : En) (F : Hp) (q : Bool → En → Prop), Rep K mg J pr env σ F H ∧ w env q ∧
  ∀ b env' F' H', Rep K mg J pr env' σ F' H' → Same F F' → q b env' → Q b H'
def tOp' (w : WO) : TO := fun σ H Q => ∃ (env : En) (F : Hp) (q : Option Int → En → Prop), Rep K mg J pr env σ F H ∧ w env q ∧
  ∀ o env' F' H', Rep K mg J pr env' σ F' H' → Same F F' → q o env' → Q o H'
end
structure DE (X : Cx) (J : GJ) (e : Expr) (w : WE) : Prop where
  run : ∀ pr, PE X e (tE X.K X.mg J pr w)
structure DB (X : Cx) (J : GJ) (e : Expr) (w : WB) : Prop where
  run : ∀ pr, PE X e (tBo X.K X.mg J pr w)
structure DA (X : Cx) (J : GJ) (es : List Expr) (w : WA) : Prop where
  run : ∀ pr, PA X es (tAr X.K X.mg J pr w)
structure DT (X : Cx) (J : GJ) (e : Expr) (w : WT) : Prop where
  run : ∀ pr, PT X e (tTs X.K X.mg J pr w)
structure DW (X : Cx) (J : GJ) (e : Expr) (w : WT) : Prop where
  run : ∀ pr, PW X e (tTs X.K X.mg J pr w)
structure DO (X : Cx) (J : GJ) (e : Option Expr) (w : WO) : Prop where
  run : ∀ pr, PO X e (tOp' X.K X.mg J pr w)

section
variable {X : Cx}
theorem PE.imp {e : Expr} {t t' : TE} (h : PE X e t) (i : ∀ σ H Q, t' σ H Q → t σ H Q) : PE X e t' := ⟨fun pins s σ H Q I q => h.run pins s σ H Q I (i _ _ _ q)⟩
theorem PT.imp {e : Expr} {t t' : TT} (h : PT X e t) (i : ∀ σ H Q, t' σ H Q → t σ H Q) : PT X e t' := ⟨fun pins s σ H Q I q => h.run pins s σ H Q I (i _ _ _ q)⟩
theorem PW.imp {e : Expr} {t t' : TT} (h : PW X e t) (i : ∀ σ H Q, t' σ H Q → t σ H Q) : PW X e t' := ⟨fun wh pins s σ H Q I q => h.run wh pins s σ H Q I (i _ _ _ q)⟩
theorem PA.imp {es : List Expr} {t t' : TA} (h : PA X es t) (i : ∀ σ H Q, t' σ H Q → t σ H Q) : PA X es t' := ⟨fun p pins s σ H Q I q => h.run p pins s σ H Q I (i _ _ _ q)⟩
theorem PO.imp {e : Option Expr} {t t' : TO} (h : PO X e t) (i : ∀ σ H Q, t' σ H Q → t σ H Q) : PO X e t' := ⟨fun pins s σ H Q I q => h.run pins s σ H Q I (i _ _ _ q)⟩
end

section
variable {K : PySem.W.Frag} {mg : Str → Option Value} {J : GJ} {pr F F' H : Hp} {σ : L2.St} {env : En} {v : V} {vs : List V}
theorem IsR.mono (s : Same F F') {a : Ar} (h : IsR K mg F σ v a) : IsR K mg F' σ v a := by
  cases a with
  | d d => exact Is.mono s h
  | b i => exact h
theorem IsRA.mono (s : Same F F') {as : List Ar} (h : IsRA K mg F σ vs as) : IsRA K mg F' σ vs as := Paired.mapP h fun _ _ q => q.mono s
theorem IsR.res (R : Rep K mg J pr env σ F H) {a : Ar} {d : D} (h : IsR K mg F σ v a) (e : res1 env a = some d) : IsB K mg F H v d := by
  cases a with
  | d x =>
    cases e
    exact .inl h
  | b i =>
    simp only [res1] at e
    split at e
    · rename_i x hx
      cases e
      obtain ⟨o, eo, z, rfl, hz⟩ := R.at hx
      have q := eo.symm.trans (show σ[i]? = some (some v) from h)
      cases q
      exact .inl hz
    · rename_i xs hx
      cases e
      obtain ⟨o, eo, p, vs, rfl, h1, h2, _⟩ := R.at hx
      have q := eo.symm.trans (show σ[i]? = some (some v) from h)
      cases q
      exact .inr ⟨p, vs, xs, rfl, rfl, h1, h2⟩
    · rename_i a0 xs hx
      cases e
      obtain ⟨o, eo, p, vs, rfl, h1, h2, _⟩ := R.at hx
      have q := eo.symm.trans (show σ[i]? = some (some v) from h)
      cases q
      exact .inr ⟨p, vs, xs, rfl, rfl, h1, h2.ia⟩
    · cases e
theorem IsRA.res (R : Rep K mg J pr env σ F H) : ∀ {vs : List V} {as : List Ar} {ds : List D}, IsRA K mg F σ vs as → resA env as = some ds → IsBA K mg F H vs ds
  | _, _, _, .nil, e => by
    cases e
    exact .nil
  | _, _, _, .cons h t, e => by
    unfold resA at e
    split at e
    · rename_i d ds e1 e2
      cases e
      exact .cons (h.res R e1) (IsRA.res R t e2)
    · cases e
theorem IsRA.real : ∀ {vs : List V} {as : List Ar} {ds : List D}, IsRA K mg F σ vs as → reals as = some ds → IsA K mg F vs ds
  | _, _, _, .nil, e => by
    cases e
    exact .nil
  | _, .d x :: _, _, .cons h t, e => by
    simp only [reals, Option.map_eq_some_iff] at e
    obtain ⟨ds, e1, rfl⟩ := e
    exact .cons h (IsRA.real t e1)
  | _, .b i :: _, _, .cons h t, e => by cases e
/-- an operation of the data, at what is known -/
theorem rP_of (R : Rep K mg J pr env σ F H) {O : Prim} {as : List Ar} {ds : List D} {q : D → En → Prop} {Q : VK} (ia : IsRA K mg F σ vs as) (e : resA env as = some ds) (ho : O ds fun d => q d env)
    (k : ∀ d env' z F' H', Rep K mg J pr env' σ F' H' → Same F F' → Is K mg F' z d → q d env' → Q z H') : rP K mg J O vs H Q :=
  ⟨pr, F, ds, fun d => q d env, R.st, ia.res R e, ho, fun d z F' H' t i hq => k d env z F' H' (R.stp t) t.ff i hq⟩
end

/-! ### names, constants -/
@[simp] def wVar (i : Nat) : WE := fun env q => match env[i]? with
  | some (.val d) => q d env
  | some (.own xs) => q (.lst xs) (env.set i (.val (.lst xs)))
  | _ => False
@[simp] def wB (i : Nat) : WB := fun env q => (match env[i]? with
  | some (.val _) | some (.own _) | some (.lat _ _) | some (.dk _) | some (.dt _) => True
  | _ => False) ∧ q (.b i) env
@[simp] def wOf (w : WE) : WB := fun env q => w env fun d e => q (.d d) e
@[simp] def wC (d : D) : WE := fun env q => q d env
section
variable {X : Cx} {J : GJ} {x : Str} {pos : Pos}
theorem de_var (i : Nat) (h : PE X (.Name x pos) (tVar i)) : DE X J (.Name x pos) (wVar i) := by
  refine ⟨fun pr => PE.imp h fun σ H Q ⟨env, F, q, R, hw, k⟩ => ?_⟩
  unfold wVar at hw
  split at hw
  · rename_i d hd
    obtain ⟨o, eo, v, rfl, hv⟩ := R.at hd
    exact ⟨v, eo, k d env v F H R (Same.refl _) hv hw⟩
  · rename_i xs hd
    obtain ⟨p, F', eo, sm, hp, R'⟩ := R.freeze hd
    exact ⟨_, eo, k _ _ _ F' H R' sm hp hw⟩
  · exact hw.elim
theorem db_var (i : Nat) (h : PE X (.Name x pos) (tVar i)) : DB X J (.Name x pos) (wB i) := by
  refine ⟨fun pr => PE.imp h fun σ H Q ⟨env, F, q, R, hw, k⟩ => ?_⟩
  have fin : ∀ v : V, σ[i]? = some (some v) → ∃ v, σ[i]? = some (some v) ∧ Q v H := fun v e => ⟨v, e, k (.b i) env v F H R (Same.refl _) e hw.2⟩
  have h1 := hw.1
  split at h1
  · rename_i d hd
    obtain ⟨o, eo, v, rfl, hv⟩ := R.at hd
    exact fin v eo
  · rename_i d hd
    obtain ⟨o, eo, p, vs, rfl, hv⟩ := R.at hd
    exact fin _ eo
  · rename_i d hd
    obtain ⟨o, eo, p, vs, rfl, hv⟩ := R.at hd
    exact fin _ eo
  · rename_i d hd
    obtain ⟨o, eo, p, vs, rfl, hv⟩ := R.at hd
    exact fin _ eo
  · rename_i d hd
    obtain ⟨o, eo, p, vs, rfl, hv⟩ := R.at hd
    exact fin _ eo
  · exact h1.elim
theorem db_of {e : Expr} {w : WE} (h : DE X J e w) : DB X J e (wOf w) :=
  ⟨fun pr => PE.imp (h.run pr) fun σ H Q ⟨env, F, q, R, hw, k⟩ => ⟨env, F, _, R, hw, fun d env' v F' H' R' s i hq => k (.d d) env' v F' H' R' s i hq⟩⟩
theorem de_c {e : Expr} {v : V} {d : D} (h : PE X e (tC v)) (i : ∀ F, Is X.K X.mg F v d) : DE X J e (wC d) :=
  ⟨fun pr => PE.imp h fun σ H Q ⟨env, F, q, R, hw, k⟩ => k d env v F H R (Same.refl _) (i F) hw⟩
theorem de_int {i j} : DE X J (.Constant (.int i) j pos) (wC (.int i)) := de_c pe_int fun _ => .int _
theorem de_bl {i j} : DE X J (.Constant (.bool i) j pos) (wC (.bl i)) := de_c pe_bl fun _ => .bl _
theorem de_non {j} : DE X J (.Constant .none j pos) (wC .non) := de_c pe_non fun _ => .non
theorem de_str {i j} : DE X J (.Constant (.str i) j pos) (wC (.str i)) := de_c pe_str fun _ => .str _
/-- a module's constant -/
theorem de_gi {i : Int} (hg : Gl X x) (hm : ∃ t, X.mg x = some (.int i t)) (hd : (x == ("__debug__" : Str)) = false := by decide) : DE X J (.Name x pos) (wC (.int i)) :=
  let ⟨t, h⟩ := hm
  de_c (pe_glob (v := .int i) hg h ⟨t, rfl⟩ hd) fun _ => .int _
/-- a built-in class as a value -/
theorem de_ty {T : String} (hg : Gl X x) (hm : X.mg x = none) (hv : bootBuiltins x = some (.type T)) (hn : x ≠ "__name__" := by decide) (hd : (x == ("__debug__" : Str)) = false := by decide) : DE X J (.Name x pos) (wC (.ty T)) :=
  de_c (pe_bltn (v := .ty T) hg hm hv rfl hn hd) fun _ => .ty _
/-- an own class as a value -/
theorem de_cls {C : Addr} (hg : Gl X x) (hm : X.mg x = some (.ref C)) (hd : (x == ("__debug__" : Str)) = false := by decide) : DE X J (.Name x pos) (wC (.cls x)) :=
  de_c (pe_glob (v := .ref C) hg hm rfl hd) fun _ => .cls hm
end

/-! ### operations -/
@[simp] def wFin (O : Prim) (as : List Ar) (env : En) (q : D → En → Prop) : Prop := ∃ ds, resA env as = some ds ∧ O ds fun d => q d env
@[simp] def w2 (O : Prim) (wa wb : WB) : WE := fun env q => wa env fun x e1 => wb e1 fun y e2 => wFin O [x, y] e2 q
@[simp] def w1 (O : Prim) (wa : WB) : WE := fun env q => wa env fun x e1 => wFin O [x] e1 q
@[simp] def wPr (O : Prim) (wa : WA) : WE := fun env q => wa env fun as e1 => wFin O as e1 q
@[simp] def wNil : WA := fun env q => q [] env
@[simp] def wCons (w : WB) (wr : WA) : WA := fun env q => w env fun a e1 => wr e1 fun as e2 => q (a :: as) e2
section
variable {X : Cx} {J : GJ} {a b e : Expr} {es : List Expr} {wa wb : WB} {w : WA} {O : Prim} {pos : Pos}
theorem two_of {pr : Hp} {σ : L2.St} {H : Hp} {Q : VK} (h : tE X.K X.mg J pr (w2 O wa wb) σ H Q) : tBo X.K X.mg J pr wa σ H fun x H1 => tBo X.K X.mg J pr wb σ H1 fun y H2 => rP X.K X.mg J O [x, y] H2 Q := by
  obtain ⟨env, F, q, R, hw, k⟩ := h
  refine ⟨env, F, _, R, hw, fun x e1 v F1 H1 R1 s1 i1 h1 => ⟨e1, F1, _, R1, h1, fun y e2 u F2 H2 R2 s2 i2 ⟨ds, h2, h3⟩ => ?_⟩⟩
  exact rP_of R2 (.cons (i1.mono s2) (.cons i2 .nil)) h2 h3 fun d env' z F' H' R' s' i' hq => k d env' z F' H' R' ((s1.trans s2).trans s') i' hq
theorem one_of {pr : Hp} {σ : L2.St} {H : Hp} {Q : VK} (h : tE X.K X.mg J pr (w1 O wa) σ H Q) : tBo X.K X.mg J pr wa σ H fun x H1 => rP X.K X.mg J O [x] H1 Q := by
  obtain ⟨env, F, q, R, hw, k⟩ := h
  refine ⟨env, F, _, R, hw, fun x e1 v F1 H1 R1 s1 i1 ⟨ds, h2, h3⟩ => ?_⟩
  exact rP_of R1 (.cons i1 .nil) h2 h3 fun d env' z F' H' R' s' i' hq => k d env' z F' H' R' (s1.trans s') i' hq
theorem args_of {pr : Hp} {σ : L2.St} {H : Hp} {Q : VK} (h : tE X.K X.mg J pr (wPr O w) σ H Q) : tAr X.K X.mg J pr w σ H fun xs H1 => rP X.K X.mg J O xs H1 Q := by
  obtain ⟨env, F, q, R, hw, k⟩ := h
  refine ⟨env, F, _, R, hw, fun as e1 vs F1 H1 R1 s1 i1 ⟨ds, h2, h3⟩ => ?_⟩
  exact rP_of R1 i1 h2 h3 fun d env' z F' H' R' s' i' hq => k d env' z F' H' R' (s1.trans s') i' hq
theorem de_op {op : Operator} (ho : OpD X J (binaryOp op) O) (ha : DB X J a wa) (hb : DB X J b wb) : DE X J (.BinOp a op b pos) (w2 O wa wb) :=
  ⟨fun pr => PE.imp (pe_op ho (ha.run pr) (hb.run pr)) fun _ _ _ h => two_of h⟩
theorem de_un {op : UnaryOp} (ho : UnD X J (unaryOp op) O) (ha : DB X J a wa) : DE X J (.UnaryOp op a pos) (w1 O wa) :=
  ⟨fun pr => PE.imp (pe_un ho (ha.run pr)) fun _ _ _ h => one_of h⟩
theorem de_cmp {op : CmpOp} (ho : OpD X J (compareOp op) O) (ha : DB X J a wa) (hb : DB X J b wb) (hm : behindInMarks op b = false) : DE X J (.Compare a [op] [b] pos) (w2 O wa wb) :=
  ⟨fun pr => PE.imp (pe_cmpR ho (ha.run pr) (hb.run pr) hm) fun _ _ _ h => two_of h⟩
theorem de_ix (ho : IxD X J O) (ha : DB X J a wa) (hb : DB X J b wb) (hs : PlainIx b) : DE X J (.Subscript a b pos) (w2 O wa wb) :=
  ⟨fun pr => PE.imp (pe_ix ho (ha.run pr) (hb.run pr) hs) fun _ _ _ h => two_of h⟩
theorem da_nil : DA X J [] wNil := ⟨fun pr => PA.imp pa_nil fun σ H Q ⟨env, F, q, R, hw, k⟩ => k [] env [] F H R (Same.refl _) .nil hw⟩
theorem da_cons (ha : DB X J e wa) (hr : DA X J es w) (hs : starEach (e :: es) X.env = (false, eval e X.env) :: starEach es X.env := by rfl) : DA X J (e :: es) (wCons wa w) :=
  ⟨fun pr => PA.imp (pa_cons (ha.run pr) (hr.run pr) hs) fun σ H Q ⟨env, F, q, R, hw, k⟩ => ⟨env, F, _, R, hw, fun x e1 v F1 H1 R1 s1 i1 h1 => ⟨e1, F1, _, R1, h1, fun as e2 vs F2 H2 R2 s2 i2 h2 => k _ e2 _ F2 H2 R2 (s1.trans s2) (.cons (i1.mono s2) i2) h2⟩⟩⟩
theorem de_callB {x : Str} {id : String} {p : Pos} (hc : CallD X J (.builtin id) O) (hg : Gl X x) (hm : X.mg x = none) (hv : bootBuiltins x = some (.builtin id)) (ha : DA X J (e :: es) w) (hn : x ≠ "__name__" := by decide) (hdb : (x == ("__debug__" : Str)) = false := by decide)
    (he : starEach (e :: es) X.env = (false, eval e X.env) :: starEach es X.env := by rfl) (hpl : (backTo pos (starEach es X.env)).any (·.1) = false := by rfl) : DE X J (.Call (.Name x p) (e :: es) [] pos) (wPr O w) :=
  ⟨fun pr => PE.imp (pe_callB hc hg hm hv (ha.run pr) hn hdb he hpl) fun _ _ _ h => args_of h⟩
theorem de_callTy {x : Str} {T : String} {p : Pos} (hc : CallD X J (.type T) O) (hg : Gl X x) (hm : X.mg x = none) (hv : bootBuiltins x = some (.type T)) (ha : DA X J (e :: es) w) (hn : x ≠ "__name__" := by decide) (hdb : (x == ("__debug__" : Str)) = false := by decide)
    (he : starEach (e :: es) X.env = (false, eval e X.env) :: starEach es X.env := by rfl) (hpl : (backTo pos (starEach es X.env)).any (·.1) = false := by rfl) : DE X J (.Call (.Name x p) (e :: es) [] pos) (wPr O w) :=
  ⟨fun pr => PE.imp (pe_callTy hc hg hm hv (ha.run pr) hn hdb he hpl) fun _ _ _ h => args_of h⟩
end

/-! ### displays, slices, fields -/
@[simp] def wTup (w : WA) : WE := fun env q => w env fun as e1 => ∃ ds, reals as = some ds ∧ ds.length ≤ 1000 ∧ q (.tup ds) e1
@[simp] def wLst (w : WA) : WE := fun env q => w env fun as e1 => ∃ ds, reals as = some ds ∧ ds.length ≤ 1000 ∧ q (.lst ds) e1
@[simp] def wONone : WO := fun env q => q none env
@[simp] def wOSome (w : WE) : WO := fun env q => w env fun d e1 => ∃ i, d = .int i ∧ q (some i) e1
@[simp] def wSl (O : PrimS) (w : WB) (wl wh : WO) : WE := fun env q => w env fun a e1 => wl e1 fun lo e2 => wh e2 fun hi e3 => ∃ d, res1 e3 a = some d ∧ O d lo hi fun d' => q d' e3
@[simp] def wFld (c f : Str) (w : WE) : WE := fun env q => w env fun d e1 => ∃ fs v, d = .ins c fs ∧ fs.lookup f = some v ∧ q v e1
section
variable {X : Cx} {J : GJ} {e : Expr} {es : List Expr} {w : WA} {we : WE} {wb : WB} {wl wh : WO} {pos p2 : Pos}
theorem Rep.laid {K : PySem.W.Frag} {mg : Str → Option Value} {pr F H : Hp} {env : En} {σ : L2.St} (R : Rep K mg J pr env σ F H) {p : Addr} {o : HO} (n : H p = none) (ho : NT o := by first | exact nt_lst | exact nt_tup) : Rep K mg J pr env σ (upd F p o) (upd H p o) ∧ Same F (upd F p o) :=
  ⟨R.stp (R.st.laid n ho), same_upd' (R.st.sub.free n)⟩
theorem de_tup {k} (h : DA X J es w) : DE X J (.Tuple es k pos) (wTup w) := by
  refine ⟨fun pr => PE.imp (pe_tup (h.run pr)) fun σ H Q ⟨env, F, q, R, hw, k⟩ => ⟨env, F, _, R, hw, fun as e1 vs F1 H1 R1 s1 i1 ⟨ds, h1, hl, hq⟩ => ?_⟩⟩
  have ia := i1.real h1
  refine ⟨by rw [ia.length, sizeLine_eq]; omega, fun p n => ?_⟩
  obtain ⟨R2, s2⟩ := R1.laid (o := .tup vs) n
  exact k _ e1 _ _ _ R2 (s1.trans s2) (.tup (SqT.of upd_same) (ia.mono s2)) hq
theorem de_lst (h : DA X J es w) : DE X J (.List es pos) (wLst w) := by
  refine ⟨fun pr => PE.imp (pe_lst (h.run pr)) fun σ H Q ⟨env, F, q, R, hw, k⟩ => ⟨env, F, _, R, hw, fun as e1 vs F1 H1 R1 s1 i1 ⟨ds, h1, hl, hq⟩ => ?_⟩⟩
  have ia := i1.real h1
  refine ⟨by rw [ia.length, sizeLine_eq]; omega, fun p n => ?_⟩
  obtain ⟨R2, s2⟩ := R1.laid (o := .lst vs) n
  exact k _ e1 _ _ _ R2 (s1.trans s2) (.lst upd_same (ia.mono s2)) hq
theorem do_none : DO X J none wONone := ⟨fun pr => PO.imp po_none fun σ H Q ⟨env, F, q, R, hw, k⟩ => k none env F H R (Same.refl _) hw⟩
theorem do_some (h : DE X J e we) : DO X J (some e) (wOSome we) := by
  refine ⟨fun pr => PO.imp (po_some (h.run pr)) fun σ H Q ⟨env, F, q, R, hw, k⟩ => ⟨env, F, _, R, hw, fun d e1 v F1 H1 R1 s1 i1 ⟨i, ei, hq⟩ => ?_⟩⟩
  subst ei
  exact ⟨i, i1.int_inv, k _ e1 F1 H1 R1 s1 hq⟩
theorem de_sl {lo hi : Option Expr} {O : PrimS} (hr : SlD X J O) (he : DB X J e wb) (hl : DO X J lo wl) (hh : DO X J hi wh) : DE X J (.Subscript e (.Slice lo hi none p2) pos) (wSl O wb wl wh) := by
  refine ⟨fun pr => PE.imp (pe_slice hr (he.run pr) (hl.run pr) (hh.run pr)) fun σ H Q ⟨env, F, q, R, hw, k⟩ => ?_⟩
  refine ⟨env, F, _, R, hw, fun a e1 v F1 H1 R1 s1 i1 h1 => ⟨e1, F1, _, R1, h1, fun l e2 F2 H2 R2 s2 h2 => ⟨e2, F2, _, R2, h2, fun u e3 F3 H3 R3 s3 ⟨d, h3, ho⟩ => ?_⟩⟩⟩
  exact ⟨pr, F3, d, _, R3.st, ((i1.mono s2).mono s3).res R3 h3, ho, fun d' z F' H' t i hq => k d' e3 z F' H' (R3.stp t) (((s1.trans s2).trans s3).trans t.ff) i hq⟩
theorem de_fld {c f : Str} (hc : ∀ C, X.mg c = some (.ref C) → Cls X.K C ∧ NoAttr X.K C f) (h : DE X J e we) (hb : attributeBase e f X.env (eval e X.env) = eval e X.env) : DE X J (.Attribute e f pos) (wFld c f we) := by
  refine ⟨fun pr => PE.imp (pe_fld (h.run pr) hb) fun σ H Q ⟨env, F, q, R, hw, k⟩ => ⟨env, F, _, R, hw, fun d e1 v F1 H1 R1 s1 i1 ⟨fs, d', hd, hl, hq⟩ => ?_⟩⟩
  subst hd
  obtain ⟨a, C, dx, gs, rfl, hm, h1, h2⟩ := i1.ins_inv
  obtain ⟨c1, c2⟩ := hc C hm
  obtain ⟨z, hz, iz⟩ := h2.lookup hl
  exact ⟨a, C, dx, gs, z, rfl, R1.st.sub _ _ h1, c1, c2, hz, k _ e1 z F1 H1 R1 s1 iz hq⟩
end

/-! ### tests, and, or, not -/
@[simp] def wTB (w : WE) : WT := fun env q => w env fun d e1 => ∃ b, d = .bl b ∧ q b e1
@[simp] def wTNot (w : WT) : WT := fun env q => w env fun b e1 => q (!b) e1
@[simp] def wTAnd (w u : WT) : WT := fun env q => w env fun b e1 => if b = true then u e1 q else q false e1
@[simp] def wTOr (w u : WT) : WT := fun env q => w env fun b e1 => if b = true then q true e1 else u e1 q
@[simp] def wIf (t : WT) (wa wb : WE) : WE := fun env q => t env fun b e1 => if b = true then wa e1 q else wb e1 q
@[simp] def wAnd (wa wb : WE) : WE := fun env q => wa env fun d e1 => ∃ b, d = .bl b ∧ if b = true then wb e1 q else q (.bl false) e1
@[simp] def wOr (wa wb : WE) : WE := fun env q => wa env fun d e1 => ∃ b, d = .bl b ∧ if b = true then q (.bl true) e1 else wb e1 q
@[simp] def wNot (wa : WE) : WE := fun env q => wa env fun d e1 => ∃ b, d = .bl b ∧ q (.bl (!b)) e1
@[simp] def wChain (O O' : Prim) (wa wb wc : WB) : WE := fun env q => wa env fun x e1 => wb e1 fun y e2 => ∃ ds, resA e2 [x, y] = some ds ∧ O ds fun d => ∃ k, d = .bl k ∧
  if k = true then wc e2 fun z e3 => wFin O' [y, z] e3 q else q (.bl false) e2
section
variable {X : Cx} {J : GJ} {a b c e : Expr} {es : List Expr} {wa wb wc : WB} {we wf : WE} {wt wu : WT} {O O' : Prim} {pos : Pos}
theorem dt_val (h : DE X J e we) (he : ∀ whole, isTrue e X.env whole = (do let v ← whole; standAt e.pos; holding [v] (truthy v)) := by intro _; rfl) : DT X J e (wTB we) := by
  refine ⟨fun pr => PT.imp (pt_val (h.run pr) he) fun σ H Q ⟨env, F, q, R, hw, k⟩ => ⟨env, F, _, R, hw, fun d e1 v F1 H1 R1 s1 i1 ⟨b, hd, hq⟩ => ?_⟩⟩
  subst hd
  exact ⟨b, i1.bl_inv, k b e1 F1 H1 R1 s1 hq⟩
theorem dt_cmp {op : CmpOp} (ho : OpD X J (compareOp op) O) (ha : DB X J a wa) (hb : DB X J b wb) (hm : behindInMarks op b = false) : DT X J (.Compare a [op] [b] pos) (wTB (w2 O wa wb)) := by
  refine ⟨fun pr => PT.imp (pt_cmpR ho (ha.run pr) (hb.run pr) hm) fun σ H Q ⟨env, F, q, R, hw, k⟩ => ?_⟩
  show tOp _ _ _ σ H _
  refine two_of ⟨env, F, _, R, hw, fun d e1 v F1 H1 R1 s1 i1 ⟨b, hd, hq⟩ => ?_⟩
  subst hd
  exact ⟨b, i1.bl_inv, k b e1 F1 H1 R1 s1 hq⟩
theorem dt_not (h : DT X J a wt) : DT X J (.UnaryOp .Not a pos) (wTNot wt) :=
  ⟨fun pr => PT.imp (pt_not (h.run pr)) fun σ H Q ⟨env, F, q, R, hw, k⟩ => ⟨env, F, _, R, hw, fun b e1 F1 H1 R1 s1 hq => k _ e1 F1 H1 R1 s1 hq⟩⟩
theorem dw_and1 (h : DT X J a wt) : DW X J (.BoolOp .And [a] pos) wt := ⟨fun pr => pw_and1 (h.run pr)⟩
theorem dw_or1 (h : DT X J a wt) : DW X J (.BoolOp .Or [a] pos) wt := ⟨fun pr => pw_or1 (h.run pr)⟩
theorem dw_and (h : DT X J a wt) (h' : DW X J (.BoolOp .And (b :: es) pos) wu) : DW X J (.BoolOp .And (a :: b :: es) pos) (wTAnd wt wu) := by
  refine ⟨fun pr => PW.imp (pw_and (h.run pr) (h'.run pr)) fun σ H Q ⟨env, F, q, R, hw, k⟩ => ⟨env, F, _, R, hw, fun b e1 F1 H1 R1 s1 hq => ?_⟩⟩
  cases b with
  | true => exact ⟨e1, F1, q, R1, hq, fun b' e2 F2 H2 R2 s2 hq' => k b' e2 F2 H2 R2 (s1.trans s2) hq'⟩
  | false => exact k false e1 F1 H1 R1 s1 hq
theorem dw_or (h : DT X J a wt) (h' : DW X J (.BoolOp .Or (b :: es) pos) wu) : DW X J (.BoolOp .Or (a :: b :: es) pos) (wTOr wt wu) := by
  refine ⟨fun pr => PW.imp (pw_or (h.run pr) (h'.run pr)) fun σ H Q ⟨env, F, q, R, hw, k⟩ => ⟨env, F, _, R, hw, fun b e1 F1 H1 R1 s1 hq => ?_⟩⟩
  cases b with
  | true => exact k true e1 F1 H1 R1 s1 hq
  | false => exact ⟨e1, F1, q, R1, hq, fun b' e2 F2 H2 R2 s2 hq' => k b' e2 F2 H2 R2 (s1.trans s2) hq'⟩
theorem dt_of (h : DW X J e wt) : DT X J e wt := ⟨fun pr => (h.run pr).pt⟩
theorem de_if (hc : DT X J c wt) (ha : DE X J a we) (hb : DE X J b wf) : DE X J (.IfExp c a b pos) (wIf wt we wf) := by
  refine ⟨fun pr => PE.imp (pe_ifExp (hc.run pr) (ha.run pr) (hb.run pr)) fun σ H Q ⟨env, F, q, R, hw, k⟩ => ⟨env, F, _, R, hw, fun b e1 F1 H1 R1 s1 hq => ?_⟩⟩
  cases b with
  | true => exact ⟨e1, F1, q, R1, hq, fun d e2 v F2 H2 R2 s2 i hq' => k d e2 v F2 H2 R2 (s1.trans s2) i hq'⟩
  | false => exact ⟨e1, F1, q, R1, hq, fun d e2 v F2 H2 R2 s2 i hq' => k d e2 v F2 H2 R2 (s1.trans s2) i hq'⟩
theorem de_one {op} (h : DE X J a we) : DE X J (.BoolOp op [a] pos) we := ⟨fun pr => pe_one (h.run pr)⟩
theorem de_and (ha : DE X J a we) (hb : DE X J (.BoolOp .And (b :: es) pos) wf) : DE X J (.BoolOp .And (a :: b :: es) pos) (wAnd we wf) := by
  refine ⟨fun pr => PE.imp (pe_and (ha.run pr) (hb.run pr)) fun σ H Q ⟨env, F, q, R, hw, k⟩ => ⟨env, F, _, R, hw, fun d e1 v F1 H1 R1 s1 i1 ⟨b, hd, hq⟩ => ?_⟩⟩
  subst hd
  refine ⟨b, i1.bl_inv, ?_⟩
  cases b with
  | true => exact ⟨e1, F1, q, R1, hq, fun d e2 v F2 H2 R2 s2 i hq' => k d e2 v F2 H2 R2 (s1.trans s2) i hq'⟩
  | false => exact k _ e1 _ F1 H1 R1 s1 (.bl _) hq
theorem de_or (ha : DE X J a we) (hb : DE X J (.BoolOp .Or (b :: es) pos) wf) : DE X J (.BoolOp .Or (a :: b :: es) pos) (wOr we wf) := by
  refine ⟨fun pr => PE.imp (pe_or (ha.run pr) (hb.run pr)) fun σ H Q ⟨env, F, q, R, hw, k⟩ => ⟨env, F, _, R, hw, fun d e1 v F1 H1 R1 s1 i1 ⟨b, hd, hq⟩ => ?_⟩⟩
  subst hd
  refine ⟨b, i1.bl_inv, ?_⟩
  cases b with
  | true => exact k _ e1 _ F1 H1 R1 s1 (.bl _) hq
  | false => exact ⟨e1, F1, q, R1, hq, fun d e2 v F2 H2 R2 s2 i hq' => k d e2 v F2 H2 R2 (s1.trans s2) i hq'⟩
theorem de_not (ha : DE X J a we) : DE X J (.UnaryOp .Not a pos) (wNot we) := by
  refine ⟨fun pr => PE.imp (pe_not (ha.run pr)) fun σ H Q ⟨env, F, q, R, hw, k⟩ => ⟨env, F, _, R, hw, fun d e1 v F1 H1 R1 s1 i1 ⟨b, hd, hq⟩ => ?_⟩⟩
  subst hd
  exact ⟨b, i1.bl_inv, k _ e1 _ F1 H1 R1 s1 (.bl _) hq⟩
theorem chain_of {pr : Hp} {σ : L2.St} {H : Hp} {Q : VK} (h : tE X.K X.mg J pr (wChain O O' wa wb wc) σ H Q) :
    tChain (fun x y H Q => rP X.K X.mg J O [x, y] H Q) (fun x y H Q => rP X.K X.mg J O' [x, y] H Q) (tBo X.K X.mg J pr wa) (tBo X.K X.mg J pr wb) (tBo X.K X.mg J pr wc) σ H Q := by
  obtain ⟨env, F, q, R, hw, k⟩ := h
  refine ⟨env, F, _, R, hw, fun x e1 v F1 H1 R1 s1 i1 h1 => ⟨e1, F1, _, R1, h1, fun y e2 u F2 H2 R2 s2 i2 ⟨ds, h2, h3⟩ => ?_⟩⟩
  refine ⟨pr, F2, ds, _, R2.st, IsRA.res R2 (.cons (i1.mono s2) (.cons i2 .nil)) h2, h3, fun d z F' H' t i ⟨c, hd, hq⟩ => ?_⟩
  subst hd
  refine ⟨c, i.bl_inv, ?_⟩
  have R' := R2.stp t
  cases c with
  | true =>
    refine ⟨e2, F', _, R', hq, fun z e3 w F3 H3 R3 s3 i3 ⟨ds', h4, h5⟩ => ?_⟩
    exact rP_of R3 (.cons ((i2.mono t.ff).mono s3) (.cons i3 .nil)) h4 h5 fun d env' z F' H' R' s' i' hq => k d env' z F' H' R' ((((s1.trans s2).trans t.ff).trans s3).trans s') i' hq
  | false => exact k _ e2 _ F' H' R' ((s1.trans s2).trans t.ff) (.bl _) hq
theorem de_chain {op op' : CmpOp} (ho : OpD X J (compareOp op) O) (ho' : OpD X J (compareOp op') O') (ha : DB X J a wa) (hb : DB X J b wb) (hc : DB X J c wc) (hm : lastMarks [op, op'] [b, c] = false := by with_unfolding_all rfl) :
    DE X J (.Compare a [op, op'] [b, c] pos) (wChain O O' wa wb wc) := ⟨fun pr => PE.imp (pe_chain ho ho' (ha.run pr) (hb.run pr) (hc.run pr) hm) fun _ _ _ h => chain_of h⟩
theorem dt_chain {op op' : CmpOp} (ho : OpD X J (compareOp op) O) (ho' : OpD X J (compareOp op') O') (ha : DB X J a wa) (hb : DB X J b wb) (hc : DB X J c wc) (hm : lastMarks [op, op'] [b, c] = false := by with_unfolding_all rfl) :
    DT X J (.Compare a [op, op'] [b, c] pos) (wTB (wChain O O' wa wb wc)) := by
  refine ⟨fun pr => PT.imp (pt_chain ho ho' (ha.run pr) (hb.run pr) (hc.run pr) hm) fun σ H Q ⟨env, F, q, R, hw, k⟩ => ?_⟩
  refine chain_of ⟨env, F, _, R, hw, fun d e1 v F1 H1 R1 s1 i1 ⟨b, hd, hq⟩ => ?_⟩
  subst hd
  exact ⟨b, i1.bl_inv, k b e1 F1 H1 R1 s1 hq⟩
end

/-! ### calls of defs -/
abbrev Spec := GJ → Prim
/-- a def's promise by data -/
def spD (K : PySem.W.Frag) (mg : Str → Option Value) (S : Spec) (n : Nat) : Sp := fun vs H Q _ => vs.length = n ∧ ∃ (J : GJ) (pr F : Hp) (ds : List D) (q : D → Prop), St8 J pr F H ∧ IsA K mg F vs ds ∧ S J ds q ∧
  ∀ d z F' H', Stp J pr F H F' H' → Is K mg F' z d → q d → Q z H'
structure CalG (g : Bool) (P : Program) (w : World) (K : PySem.W.Frag) (mg : Str → Option Value) (base : Heap) (k : Nat) (x : Str) (S : Spec) (n : Nat) : Prop where
  ex : ∃ (f : Addr) (fd : FuncData) (ps : List Str), FnG g P w K mg base L2.CX0 k f fd ps (spD K mg S n) ∧ mg x = some (.ref f) ∧ PySem.W.keepIn K (.ref f) = true ∧ Binds K fd ps []
@[simp] def wCall (J : GJ) (S : Spec) (n : Nat) (w : WA) : WE := fun env q => w env fun as e1 => ∃ ds, reals as = some ds ∧ ds.length = n ∧ S J ds fun d => q d e1
section
variable {g : Bool} {X : Cx} {J : GJ} {S : Spec} {n k j : Nat} {x : Str} {p pos : Pos} {e : Expr} {es : List Expr} {w : WA}
theorem de_call (c : CalG g X.prog X.w X.K X.mg X.base k x S n) (hr : Rm g j X.A) (hk : k ≤ j) (hg : Gl X x) (ha : DA X J (e :: es) w)
    (hdb : (x == ("__debug__" : Str)) = false := by decide) (he : starEach (e :: es) X.env = (false, eval e X.env) :: starEach es X.env := by rfl) (hpl : (backTo pos (starEach es X.env)).any (·.1) = false := by rfl) :
    DE X J (.Call (.Name x p) (e :: es) [] pos) (wCall J S n w) := by
  obtain ⟨f, fd, ps, F, hm, hkp, hb⟩ := c.ex
  refine ⟨fun pr => PE.imp (pe_callG F (hr.mono hk) hg hm hkp hb L2.pass0 (ha.run pr) hdb he hpl) fun σ H Q ⟨env, F, q, R, hw, k⟩ => ?_⟩
  refine ⟨env, F, _, R, hw, fun as e1 vs F1 H1 R1 s1 i1 ⟨ds, h1, hn, h2⟩ => ?_⟩
  have ia := i1.real h1
  -- what the caller's slots own, beside what others own
  let own : Hp := fun b => open Classical in if ∃ (i : Nat) (s : Sl), e1[i]? = some s ∧ s.isOwn = true ∧ σ[i]? = some (some (V.ref b)) then H1 b else pr b
  have hown : ∀ b, (∃ (i : Nat) (s : Sl), e1[i]? = some s ∧ s.isOwn = true ∧ σ[i]? = some (some (V.ref b))) → own b = H1 b := fun b h => if_pos h
  have hnot : ∀ b, ¬ (∃ (i : Nat) (s : Sl), e1[i]? = some s ∧ s.isOwn = true ∧ σ[i]? = some (some (V.ref b))) → own b = pr b := fun b h => if_neg h
  have mine : ∀ {b : Addr} {i : Nat} {s : Sl}, e1[i]? = some s → s.isOwn = true → σ[i]? = some (some (.ref b)) → Mine J pr F1 b ∧ ∃ o, H1 b = some o ∧ NT o := fun {b i s} h1 h2 h3 => by
    have h := R1.sl i s _ h1 h3
    cases s with
    | no => cases h2
    | val d => cases h2
    | own xs =>
      obtain ⟨p, vs, ep, hp, _, m⟩ := h
      cases ep
      exact ⟨m, _, hp, nt_lst⟩
    | lat a0 xs =>
      obtain ⟨p, vs, ep, hp, _, m⟩ := h
      cases ep
      exact ⟨m, _, hp, nt_lst⟩
    | dk xs =>
      obtain ⟨p, vs, ep, hp, _, m⟩ := h
      cases ep
      exact ⟨m, _, hp, nt_dK⟩
    | dt xs =>
      obtain ⟨p, vs, ep, hp, _, m⟩ := h
      cases ep
      exact ⟨m, _, hp, nt_dT⟩
  have st : St8 J own F1 H1 := by
    refine ⟨R1.st.sub, fun b o hb => ?_, R1.st.inv, fun b m => ⟨(R1.st.mtF b m).1, ?_⟩, fun b o hb => ?_⟩
    · by_cases hx : ∃ (i : Nat) (s : Sl), e1[i]? = some s ∧ s.isOwn = true ∧ σ[i]? = some (some (V.ref b))
      · rw [hown b hx] at hb
        obtain ⟨i, s, a1, a2, a3⟩ := hx
        exact ⟨hb, (mine a1 a2 a3).1.f⟩
      · rw [hnot b hx] at hb
        exact R1.st.prk b o hb
    · have hx : ¬ ∃ (i : Nat) (s : Sl), e1[i]? = some s ∧ s.isOwn = true ∧ σ[i]? = some (some (V.ref b)) := fun ⟨i, s, a1, a2, a3⟩ => (mine a1 a2 a3).1.m m
      rw [hnot b hx]
      exact (R1.st.mtF b m).2
    · rcases hb with hb | hb
      · exact R1.st.nt b o (.inl hb)
      · by_cases hx : ∃ (i : Nat) (s : Sl), e1[i]? = some s ∧ s.isOwn = true ∧ σ[i]? = some (some (V.ref b))
        · rw [hown b hx] at hb
          obtain ⟨i, s, a1, a2, a3⟩ := hx
          obtain ⟨_, o', h1, h2⟩ := mine a1 a2 a3
          rw [h1] at hb
          cases hb
          exact h2
        · rw [hnot b hx] at hb
          exact R1.st.nt b o (.inr hb)
  refine ⟨by rw [ia.length]; exact hn, J, own, F1, ds, _, st, ia, h2, fun d z F' H' t i hq => ?_⟩
  have t' : Stp J pr F1 H1 F' H' := by
    refine ⟨⟨t.st.sub, fun b o hb => ?_, t.st.inv, fun b m => ⟨(t.st.mtF b m).1, (R1.st.mtF b m).2⟩, fun b o hb => hb.elim (fun hb => t.st.nt b o (.inl hb)) fun hb => R1.st.nt b o (.inr hb)⟩, t.ff, t.hh, t.nf⟩
    have hx : ¬ ∃ (i : Nat) (s : Sl), e1[i]? = some s ∧ s.isOwn = true ∧ σ[i]? = some (some (V.ref b)) := fun ⟨i, s, a1, a2, a3⟩ => by
      have m := (mine a1 a2 a3).1.q
      rw [hb] at m
      cases m
    have e := hnot b hx
    exact t.st.prk b o (e.trans hb)
  exact k d e1 z F' H' (R1.stp t') (s1.trans t.ff) i hq
end
end DL

/-! DL5: what is walked, targets, comprehensions. -/
namespace DL
open PySem PySem.Spec PyProof.Rows L2

/-! ### what is walked -/
structure ItOk (K : PySem.W.Frag) (mg : Str → Option Value) (J : GJ) (pr : Hp) (It : L2.It) (F0 : Hp) (xs : List D) : Prop where
  go : ∀ i F H, Same F0 F → Same F H → i < xs.length → It.go i H
  yld : ∀ i F H x H', Same F0 F → St8 J pr F H → i < xs.length → It.yld i H x H' → ∃ F' d, xs[i]? = some d ∧ Stp J pr F H F' H' ∧ Is K mg F' x d
  stop : ∀ i F H, Same F0 F → Same F H → xs.length ≤ i → It.stop i H
abbrev WI := En → (List D → En → Prop) → Prop
def tI (K : PySem.W.Frag) (mg : Str → Option Value) (J : GJ) (w : WI) : TI := fun σ H R => ∃ (pr : Hp) (env : En) (F : Hp) (r : List D → En → Prop), Rep K mg J pr env σ F H ∧ w env r ∧
  ∀ It xs env' F' H', Rep K mg J pr env' σ F' H' → Same F F' → (∀ pr', ItOk K mg J pr' It F' xs) → r xs env' → R It H'
structure DI (X : Cx) (J : GJ) (tg iter : Expr) (w : WI) : Prop where
  run : PI X tg iter (tI X.K X.mg J w)
section
variable {K : PySem.W.Frag} {mg : Str → Option Value} {J : GJ} {pr : Hp}
theorem itOk_list {a : Addr} {F0 : Hp} {vs : List V} {xs : List D} (h : F0 a = some (.lst vs)) (ia : IsA K mg F0 vs xs) : ItOk K mg J pr (Itl K a) F0 xs := by
  refine ⟨fun i F H s1 s2 hi => ?_, fun i F H x H' s1 st hi hy => ?_, fun i F H s1 s2 hi => ?_⟩
  · obtain ⟨v, hv, _⟩ := ia.get (List.getElem?_eq_getElem hi)
    exact ⟨vs, v, SqL.of (s2 _ _ (s1 _ _ h)), hv⟩
  · obtain ⟨v, hv, iv⟩ := ia.get (List.getElem?_eq_getElem hi)
    obtain ⟨rfl, f⟩ := hy
    have e := f vs (SqL.of (st.sub _ _ (s1 _ _ h)))
    rw [hv] at e
    cases e
    exact ⟨F, _, List.getElem?_eq_getElem hi, Stp.refl st, iv.mono s1⟩
  · exact ⟨vs, SqL.of (s2 _ _ (s1 _ _ h)), by rw [ia.length]; exact hi⟩
theorem itOk_tup {a : Addr} {F0 : Hp} {vs : List V} {xs : List D} (h : SqT K F0 a vs) (ia : IsA K mg F0 vs xs) : ItOk K mg J pr (Itt K a) F0 xs := by
  refine ⟨fun i F H s1 s2 hi => ?_, fun i F H x H' s1 st hi hy => ?_, fun i F H s1 s2 hi => ?_⟩
  · obtain ⟨v, hv, _⟩ := ia.get (List.getElem?_eq_getElem hi)
    exact ⟨vs, v, same_seqT s2 (same_seqT s1 h), hv⟩
  · obtain ⟨v, hv, iv⟩ := ia.get (List.getElem?_eq_getElem hi)
    obtain ⟨rfl, f⟩ := hy
    have e := f vs (same_seqT st.sub (same_seqT s1 h))
    rw [hv] at e
    cases e
    exact ⟨F, _, List.getElem?_eq_getElem hi, Stp.refl st, iv.mono s1⟩
  · exact ⟨vs, same_seqT s2 (same_seqT s1 h), by rw [ia.length]; exact hi⟩
/-- lo, lo + c, .. (n of them) -/
def rgD (lo c : Int) (n : Nat) : List D := (List.range n).map fun i => D.int (lo + (i : Nat) * c)
theorem rgD_get {lo c : Int} {n i : Nat} (h : i < n) : (rgD lo c n)[i]? = some (.int (lo + (i : Nat) * c)) := by
  unfold rgD
  rw [List.getElem?_map, List.getElem?_range h]
  rfl
theorem rgD_length (lo c : Int) (n : Nat) : (rgD lo c n).length = n := by
  unfold rgD
  rw [List.length_map, List.length_range]
theorem itOk_rng {F0 : Hp} (lo : Int) (n : Nat) : ItOk K mg J pr (Itr lo n) F0 (rgD lo 1 n) := by
  refine ⟨fun i F H s1 s2 hi => ?_, fun i F H x H' s1 st hi hy => ?_, fun i F H s1 s2 hi => ?_⟩
  · rw [rgD_length] at hi
    exact hi
  · rw [rgD_length] at hi
    obtain ⟨rfl, rfl⟩ := hy
    refine ⟨F, _, rgD_get hi, Stp.refl st, ?_⟩
    rw [Int.mul_one]
    exact .int _
  · rw [rgD_length] at hi
    exact hi
theorem itOk_rngC {F0 : Hp} (lo c : Int) (n : Nat) : ItOk K mg J pr (Itc lo c n) F0 (rgD lo c n) := by
  refine ⟨fun i F H s1 s2 hi => ?_, fun i F H x H' s1 st hi hy => ?_, fun i F H s1 s2 hi => ?_⟩
  · rw [rgD_length] at hi
    exact hi
  · rw [rgD_length] at hi
    obtain ⟨rfl, rfl⟩ := hy
    exact ⟨F, _, rgD_get hi, Stp.refl st, .int _⟩
  · rw [rgD_length] at hi
    exact hi
end
/-- a list or a tuple -/
@[simp] def wIs (w : WE) : WI := fun env r => w env fun d e1 => match d with
  | .lst xs => r xs e1
  | .tup xs => r xs e1
  | _ => False
@[simp] def wR1 (w : WA) : WI := fun env r => w env fun as e1 => ∃ j : Int, reals as = some [.int j] ∧ (-(2 ^ 62) ≤ j ∧ j < 2 ^ 62) ∧ r (rgD 0 1 j.toNat) e1
@[simp] def wR2 (w : WA) : WI := fun env r => w env fun as e1 => ∃ i j : Int, reals as = some [.int i, .int j] ∧ (-(2 ^ 62) ≤ i ∧ i < 2 ^ 62 ∧ -(2 ^ 62) ≤ j ∧ j < 2 ^ 62) ∧ r (rgD i 1 (j - i).toNat) e1
@[simp] def wR3 (w : WA) : WI := fun env r => w env fun as e1 => ∃ (i j c : Int) (n : Nat), reals as = some [.int i, .int j, .int c] ∧ RgC i j c n ∧ r (rgD i c n) e1
section
variable {X : Cx} {J : GJ} {tg e a b c : Expr} {we : WE} {w : WA} {p pos : Pos}
theorem di_seq (h : DE X J e we) : DI X J tg e (wIs we) := by
  refine ⟨⟨fun pins s σ H R I ⟨pr, env, F, r, R0, hw, k⟩ => ?_⟩⟩
  refine thn ((h.run pr).run pins s σ H (fun v H1 => ∃ d env' F', Rep X.K X.mg J pr env' σ F' H1 ∧ Same F F' ∧ Is X.K X.mg F' v d ∧ (match d with
    | .lst xs => r xs env'
    | .tup xs => r xs env'
    | _ => False)) I ⟨env, F, _, R0, hw, fun d env' v F' H' R' s' i hq => ⟨d, env', F', R', s', i, hq⟩⟩) fun u s1 ⟨x, H1, I1, r1, d, env', F', R', s', i, hq⟩ => ?_
  cases d with
  | lst xs =>
    obtain ⟨p, vs, rfl, h1, ia⟩ := i.lst_inv
    cases r1
    obtain ⟨its, rv, hp, hz⟩ := I1.list (SqL.of (R'.st.sub _ _ h1))
    exact wpAny_pyIter_list hp.isList (pi_one (tk := s1.toks) I1 _ (turn_list _ _) ⟨_, Heap.get?_push_size _ rfl, rfl, rfl⟩ (k _ xs env' F' H1 R' s' (fun _ => itOk_list h1 ia) hq))
  | tup xs =>
    obtain ⟨p, vs, rfl, h1, ia⟩ := i.tup_inv
    cases r1
    obtain ⟨its, rv, hp, hz⟩ := I1.tuple (same_seqT R'.st.sub h1)
    exact wpAny_pyIter_tuple (show s1.heap.IsTuple p its.toArray from hp) (pi_one (tk := s1.toks) I1 _ (turn_tuple _ _) ⟨_, Heap.get?_push_size _ rfl, rfl, rfl⟩ (k _ xs env' F' H1 R' s' (fun _ => itOk_tup h1 ia) hq))
  | non => exact hq.elim
  | bl _ => exact hq.elim
  | int _ => exact hq.elim
  | str _ => exact hq.elim
  | ins _ _ => exact hq.elim
  | tk _ => exact hq.elim
  | ty _ => exact hq.elim
  | cls _ => exact hq.elim
theorem PI.imp {wi wi' : TI} (h : PI X tg e wi) (i : ∀ σ H R, wi' σ H R → wi σ H R) : PI X tg e wi' := ⟨fun pins s σ H R I q => h.run pins s σ H R I (i _ _ _ q)⟩
theorem ints1 {K : PySem.W.Frag} {mg : Str → Option Value} {F : Hp} {vs : List V} {i : Int} (h : IsA K mg F vs [.int i]) : vs = [.int i] := by
  obtain ⟨v, rfl, h1⟩ := h.one_inv
  rw [h1.int_inv]
theorem ints2 {K : PySem.W.Frag} {mg : Str → Option Value} {F : Hp} {vs : List V} {i j : Int} (h : IsA K mg F vs [.int i, .int j]) : vs = [.int i, .int j] := by
  obtain ⟨v, u, rfl, h1, h2⟩ := h.two_inv
  rw [h1.int_inv, h2.int_inv]
theorem ints3 {K : PySem.W.Frag} {mg : Str → Option Value} {F : Hp} {vs : List V} {i j k : Int} (h : IsA K mg F vs [.int i, .int j, .int k]) : vs = [.int i, .int j, .int k] := by
  obtain ⟨v, r, rfl, h1, t⟩ := h.cons_inv
  rw [h1.int_inv, ints2 t]
theorem di_r1 (hg : Gl X "range") (hm : X.mg "range" = none) (ha : DA X J [a] w) (hs : starEach [a] X.env = [(false, eval a X.env)] := by rfl) : DI X J tg (.Call (.Name "range" p) [a] [] pos) (wR1 w) := by
  refine ⟨⟨fun pins s σ H R I ⟨pr, env, F, r, R0, hw, k⟩ => (pi_range1 hg hm (ha.run pr) hs).run pins s σ H R I ⟨env, F, _, R0, hw, fun as e1 vs F1 H1 R1 s1 i1 ⟨j, hj, h1, h2⟩ => ?_⟩⟩⟩
  exact ⟨j, ints1 (i1.real hj), h1.1, h1.2, k _ _ e1 F1 H1 R1 s1 (fun _ => itOk_rng 0 _) h2⟩
theorem di_r2 (hg : Gl X "range") (hm : X.mg "range" = none) (ha : DA X J [a, b] w) (hs : starEach [a, b] X.env = [(false, eval a X.env), (false, eval b X.env)] := by rfl) (hs2 : starEach [b] X.env = [(false, eval b X.env)] := by rfl) :
    DI X J tg (.Call (.Name "range" p) [a, b] [] pos) (wR2 w) := by
  refine ⟨⟨fun pins s σ H R I ⟨pr, env, F, r, R0, hw, k⟩ => (pi_range2 hg hm (ha.run pr) hs hs2).run pins s σ H R I ⟨env, F, _, R0, hw, fun as e1 vs F1 H1 R1 s1 i1 ⟨i, j, hj, h1, h2⟩ => ?_⟩⟩⟩
  exact ⟨i, j, ints2 (i1.real hj), h1, k _ _ e1 F1 H1 R1 s1 (fun _ => itOk_rng i _) h2⟩
theorem di_r3 (hg : Gl X "range") (hm : X.mg "range" = none) (ha : DA X J [a, b, c] w) (hs : starEach [a, b, c] X.env = (false, eval a X.env) :: starEach [b, c] X.env := by rfl) (hpl : (backTo pos (starEach [b, c] X.env)).any (·.1) = false := by rfl) :
    DI X J tg (.Call (.Name "range" p) [a, b, c] [] pos) (wR3 w) := by
  refine ⟨⟨fun pins s σ H R I ⟨pr, env, F, r, R0, hw, k⟩ => (pi_range3 hg hm (ha.run pr) hs hpl).run pins s σ H R I ⟨env, F, _, R0, hw, fun as e1 vs F1 H1 R1 s1 i1 ⟨i, j, l, n, hj, h1, h2⟩ => ?_⟩⟩⟩
  exact ⟨i, j, l, n, ints3 (i1.real hj), h1, k _ _ e1 F1 H1 R1 s1 (fun _ => itOk_rngC i l n) h2⟩
end

/-! ### targets: names, tuples of names -/
abbrev WG := D → En → (En → Prop) → Prop
/-- a target stores data; no slot but those of vs changes -/
def tG (K : PySem.W.Frag) (mg : Str → Option Value) (J : GJ) (vs : List Nat) (w : WG) : TG := fun v σ H Q => ∃ (pr : Hp) (env : En) (F : Hp) (d : D) (q : En → Prop), Rep K mg J pr env σ F H ∧ Is K mg F v d ∧ w d env q ∧
  ∀ env' σ' F' H', Rep K mg J pr env' σ' F' H' → Same F F' → (∀ i, i ∉ vs → σ'[i]? = σ[i]?) → σ'.length = σ.length → q env' → Q σ' H'
structure DG (X : Cx) (J : GJ) (tg : Expr) (vs : List Nat) (w : WG) : Prop where
  run : PG X tg (tG X.K X.mg J vs w)
abbrev WGs := List D → En → (En → Prop) → Prop
def tGs (K : PySem.W.Frag) (mg : Str → Option Value) (J : GJ) (vs : List Nat) (w : WGs) : TGs := fun xs σ H Q => ∃ (pr : Hp) (env : En) (F : Hp) (ds : List D) (q : En → Prop), Rep K mg J pr env σ F H ∧ IsA K mg F xs ds ∧ w ds env q ∧
  ∀ env' σ' F' H', Rep K mg J pr env' σ' F' H' → Same F F' → (∀ i, i ∉ vs → σ'[i]? = σ[i]?) → σ'.length = σ.length → q env' → Q σ' H'
structure DGs (X : Cx) (J : GJ) (ts : List Expr) (vs : List Nat) (w : WGs) : Prop where
  run : PGs X ts (tGs X.K X.mg J vs w)
@[simp] def gN (i : Nat) : WG := fun d env q => q (env.set i (.val d))
@[simp] def gNil : WGs := fun ds env q => ds = [] ∧ q env
@[simp] def gCons (w : WG) (wr : WGs) : WGs := fun ds env q => ∃ d r, ds = d :: r ∧ w d env fun e1 => wr r e1 q
@[simp] def gTup (n : Nat) (w : WGs) : WG := fun d env q => ∃ ds, d = .tup ds ∧ ds.length = n ∧ w ds env q
section
variable {X : Cx} {J : GJ} {e : Expr} {es : List Expr} {w : WG} {ws : WGs} {vs us : List Nat} {pos : Pos}
theorem PG.imp {g g' : TG} (h : PG X e g) (i : ∀ v σ H Q, g' v σ H Q → g v σ H Q) : PG X e g' := ⟨fun pins s σ H v u Q I r q => h.run pins s σ H v u Q I r (i _ _ _ _ q)⟩
theorem PGs.imp {g g' : TGs} (h : PGs X es g) (i : ∀ v σ H Q, g' v σ H Q → g v σ H Q) : PGs X es g' := ⟨fun pins s σ H v u Q I r q => h.run pins s σ H v u Q I r (i _ _ _ _ q)⟩
theorem dg_name (i : Nat) (h : PG X e (L2.gName i)) : DG X J e [i] (gN i) := by
  refine ⟨PG.imp h fun v σ H Q ⟨pr, env, F, d, q, R, iv, hw, k⟩ => ?_⟩
  refine k _ (σ.set i (some v)) F H (R.store iv) (Same.refl _) (fun j hj => List.getElem?_set_ne (fun z => hj (by simp [z]))) (List.length_set ..) hw
theorem dgs_nil : DGs X J [] [] gNil := by
  refine ⟨PGs.imp pgs_nil fun v σ H Q ⟨pr, env, F, ds, q, R, iv, ⟨hd, hq⟩, k⟩ => ?_⟩
  subst hd
  exact ⟨iv.nil_inv, k env σ F H R (Same.refl _) (fun _ _ => rfl) rfl hq⟩
theorem dgs_cons (h : DG X J e us w) (h' : DGs X J es vs ws) (hs : (assignEach (e :: es) X.env).map (·.2) = assign e X.env :: (assignEach es X.env).map (·.2) := by rfl) : DGs X J (e :: es) (us ++ vs) (gCons w ws) := by
  refine ⟨PGs.imp (pgs_cons h.run h'.run hs) fun v σ H Q ⟨pr, env, F, ds, q, R, iv, ⟨d, r, hd, hq⟩, k⟩ => ?_⟩
  subst hd
  obtain ⟨x, xs, rfl, ix, ixs⟩ := iv.cons_inv
  refine ⟨x, xs, rfl, pr, env, F, d, _, R, ix, hq, fun e1 σ1 F1 H1 R1 s1 f1 l1 hq1 => ?_⟩
  refine ⟨pr, e1, F1, r, q, R1, ixs.mono s1, hq1, fun e2 σ2 F2 H2 R2 s2 f2 l2 hq2 => k e2 σ2 F2 H2 R2 (s1.trans s2) (fun i hi => ?_) (l2.trans l1) hq2⟩
  rw [List.mem_append, not_or] at hi
  exact (f2 i hi.2).trans (f1 i hi.1)
theorem dg_tup {k n} (hc : X.calm = true) (h : DGs X J es vs ws) (hn : (assignEach es X.env).length = n := by rfl) (hst : (assignEach es X.env).findIdx? (·.1) = none := by rfl) : DG X J (.Tuple es k pos) vs (gTup n ws) := by
  refine ⟨PG.imp (pg_tup hc h.run hn hst) fun v σ H Q ⟨pr, env, F, d, q, R, iv, ⟨ds, hd, hl, hq⟩, k⟩ => ?_⟩
  subst hd
  obtain ⟨a, xs, rfl, h1, ia⟩ := iv.tup_inv
  exact ⟨a, xs, rfl, same_seqT R.st.sub h1, by rw [ia.length]; exact hl, pr, env, F, ds, q, R, ia, hq, k⟩
end

/-! ### comprehensions -/
@[simp] def wipeE (env : En) : List Nat → En
  | [] => env
  | v :: vs => (wipeE env vs).set v .no
/-- the slots of vs as they stood ahead -/
@[simp] def backE (old env : En) : List Nat → En
  | [] => env
  | v :: vs => (backE old env vs).set v (old.getD v .no)
@[simp] def freeE (env : En) (vs : List Nat) : Prop := ∀ v ∈ vs, (env.getD v .no).isOwn = false
def lcGo (vs : List Nat) (g : WG) (tt : WT) (te : WE) (fin : List D → En → Prop) : List D → List D → En → Prop
  | [], acc, env => fin acc env
  | x :: xs, acc, env => g x env fun e2 => tt e2 fun b e3 => if b = true then te e3 fun y e4 => acc.length < sizeLine ∧ lcGo vs g tt te fin xs (acc ++ [y]) (wipeE e4 vs) else lcGo vs g tt te fin xs acc (wipeE e3 vs)
@[simp] def wLC (vs : List Nat) (wi : WI) (g : WG) (tt : WT) (te : WE) : WE := fun env q => wi env fun xs e1 => freeE e1 vs ∧ lcGo vs g tt te (fun acc e => q (.lst acc) (backE e1 e vs)) xs [] (wipeE e1 vs)
@[simp] def wYes : WT := fun env q => q true env
structure DTs (X : Cx) (J : GJ) (ifs : List Expr) (w : WT) : Prop where
  run : ∀ pr, PTs X ifs (tTs X.K X.mg J pr w)
section
variable {X : Cx} {J : GJ} {c : Expr} {w : WT}
theorem dts_nil : DTs X J [] wYes := ⟨fun pr => ⟨fun pins s σ H Q I ⟨env, F, q, R, hw, k⟩ => pts_nil.run pins s σ H Q I (k true env F H R (Same.refl _) hw)⟩⟩
theorem dts_one (h : DT X J c w) : DTs X J [c] w := ⟨fun pr => pts_one (h.run pr)⟩
end
section
variable {K : PySem.W.Frag} {mg : Str → Option Value} {J : GJ} {pr F H F' H' : Hp} {env old : En} {σ : L2.St}
theorem wipeE_length (env : En) : ∀ vs, (wipeE env vs).length = env.length
  | [] => rfl
  | v :: vs => by
    unfold wipeE
    rw [List.length_set, wipeE_length env vs]
theorem wipeE_get {i : Nat} {s : Sl} : ∀ {vs : List Nat}, (wipeE env vs)[i]? = some s → s = .no ∨ (env[i]? = some s ∧ i ∉ vs)
  | [], h => .inr ⟨h, by simp⟩
  | v :: vs, h => by
    unfold wipeE at h
    by_cases hv : v = i
    · subst hv
      obtain ⟨hl, h⟩ := List.getElem?_eq_some_iff.mp h
      simp only [List.getElem_set_self] at h
      exact .inl h.symm
    · rw [List.getElem?_set_ne hv] at h
      rcases wipeE_get h with h | ⟨h1, h2⟩
      · exact .inl h
      · refine .inr ⟨h1, ?_⟩
        simp only [List.mem_cons, not_or]
        exact ⟨fun z => hv z.symm, h2⟩
theorem wipe_get {i : Nat} : ∀ {vs : List Nat}, i ∉ vs → (wipe σ vs)[i]? = σ[i]?
  | [], _ => rfl
  | v :: vs, h => by
    simp only [List.mem_cons, not_or] at h
    unfold wipe
    rw [List.getElem?_set_ne (fun z => h.1 z.symm)]
    exact wipe_get h.2
theorem Rep.wipe (R : Rep K mg J pr env σ F H) (vs : List Nat) : Rep K mg J pr (wipeE env vs) (L2.wipe σ vs) F H := by
  refine ⟨R.st, by rw [wipeE_length, wipe_length]; exact R.len, fun i s o e1 e2 => ?_, fun i j s t ne e1 e2 hs ht => ?_⟩
  · rcases wipeE_get e1 with rfl | ⟨h1, h2⟩
    · trivial
    · rw [wipe_get h2] at e2
      exact R.sl i s o h1 e2
  · rcases wipeE_get e1 with rfl | ⟨h1, h2⟩
    · cases hs
    · rcases wipeE_get e2 with rfl | ⟨h3, h4⟩
      · cases ht
      · rw [wipe_get h2, wipe_get h4]
        exact R.dis i j s t ne h1 h3 hs ht
theorem backE_length (old env : En) : ∀ vs, (backE old env vs).length = env.length
  | [] => rfl
  | v :: vs => by
    unfold backE
    rw [List.length_set, backE_length old env vs]
theorem backE_get {i : Nat} {s : Sl} : ∀ {vs : List Nat}, (backE old env vs)[i]? = some s → (s = old.getD i .no ∧ i ∈ vs) ∨ (env[i]? = some s ∧ i ∉ vs)
  | [], h => .inr ⟨h, by simp⟩
  | v :: vs, h => by
    unfold backE at h
    by_cases hv : v = i
    · subst hv
      obtain ⟨hl, h⟩ := List.getElem?_eq_some_iff.mp h
      simp only [List.getElem_set_self] at h
      exact .inl ⟨h.symm, by simp⟩
    · rw [List.getElem?_set_ne hv] at h
      rcases backE_get h with ⟨h1, h2⟩ | ⟨h1, h2⟩
      · exact .inl ⟨h1, by simp [h2]⟩
      · refine .inr ⟨h1, ?_⟩
        simp only [List.mem_cons, not_or]
        exact ⟨fun z => hv z.symm, h2⟩
/-- the slots of the block forgotten, those of the def as they stood -/
theorem Rep.back {vs : List Nat} (R0 : Rep K mg J pr old σ F H) (fr : freeE old vs) (R : Rep K mg J pr env (L2.wipe σ vs) F' H') (s : Same F F') : Rep K mg J pr (backE old env vs) σ F' H' := by
  have val : ∀ {i : Nat} {s' : Sl} {o : Option V}, s' = old.getD i .no → i ∈ vs → σ[i]? = some o → SlOk K mg J pr F' H' o s' := fun {i s' o} e hi eo => by
    have hf := fr i hi
    rw [← e] at hf
    have hl : i < old.length := by
      rw [R0.len]
      exact (List.getElem?_eq_some_iff.mp eo).1
    have e1 : old[i]? = some s' := by
      rw [e, List.getD_eq_getElem?_getD, List.getElem?_eq_getElem hl]
      rfl
    have h := R0.sl i s' o e1 eo
    cases s' with
    | no => trivial
    | val d =>
      obtain ⟨v, ev, iv⟩ := h
      exact ⟨v, ev, iv.mono s⟩
    | own _ => cases hf
    | lat _ _ => cases hf
    | dk _ => cases hf
    | dt _ => cases hf
  refine ⟨R.st, by rw [backE_length, R.len, wipe_length], fun i s' o e1 e2 => ?_, fun i j s' t ne e1 e2 hs ht => ?_⟩
  · rcases backE_get e1 with ⟨h1, h2⟩ | ⟨h1, h2⟩
    · exact val h1 h2 e2
    · exact R.sl i s' o h1 (by rw [wipe_get h2]; exact e2)
  · rcases backE_get e1 with ⟨h1, h2⟩ | ⟨h1, h2⟩
    · rw [h1, fr i h2] at hs
      cases hs
    · rcases backE_get e2 with ⟨h3, h4⟩ | ⟨h3, h4⟩
      · rw [h3, fr j h4] at ht
        cases ht
      · have := R.dis i j s' t ne h1 h3 hs ht
        rwa [wipe_get h2, wipe_get h4] at this
/-- with one more object that somebody owns -/
theorem Rep.more {D : Addr} {o : HO} (R : Rep K mg J pr env σ F H) (h : H D = some o) (m : Mine J pr F D) (ho : NT o) (al : ∀ (i : Nat) (s : Sl), env[i]? = some s → s.isOwn = true → σ[i]? ≠ some (some (.ref D))) : Rep K mg J (upd pr D o) env σ F H := by
  refine ⟨⟨R.st.sub, fun b x e => ?_, R.st.inv, fun b mt => ?_, fun b x e => ?_⟩, R.len, fun i s q e1 e2 => ?_, R.dis⟩
  · by_cases hb : b = D
    · subst hb
      rw [upd_same] at e
      cases e
      exact ⟨h, m.f⟩
    · rw [upd_ne hb] at e
      exact R.st.prk b x e
  · have hb : b ≠ D := fun z => by
      subst z
      exact m.m mt
    rw [upd_ne hb]
    exact R.st.mtF b mt
  · rcases e with e | e
    · exact R.st.nt b x (.inl e)
    · by_cases hb : b = D
      · subst hb
        rw [upd_same] at e
        cases e
        exact ho
      · rw [upd_ne hb] at e
        exact R.st.nt b x (.inr e)
  · have hh := R.sl i s q e1 e2
    have ne : ∀ {p : Addr}, s.isOwn = true → q = some (.ref p) → p ≠ D := fun {p} hs hq z => by
      subst z
      exact al i s e1 hs (by rw [e2, hq])
    cases s with
    | no => trivial
    | val d => exact hh
    | own xs =>
      obtain ⟨p, vs, ep, h1, ia, mm⟩ := hh
      exact ⟨p, vs, ep, h1, ia, mm.f, by rw [upd_ne (ne rfl ep)]; exact mm.q, mm.m⟩
    | lat a0 xs =>
      obtain ⟨p, vs, ep, h1, ia, mm⟩ := hh
      exact ⟨p, vs, ep, h1, ia, mm.f, by rw [upd_ne (ne rfl ep)]; exact mm.q, mm.m⟩
    | dk xs =>
      obtain ⟨p, vs, ep, h1, ia, mm⟩ := hh
      exact ⟨p, vs, ep, h1, ia, mm.f, by rw [upd_ne (ne rfl ep)]; exact mm.q, mm.m⟩
    | dt xs =>
      obtain ⟨p, vs, ep, h1, ia, mm⟩ := hh
      exact ⟨p, vs, ep, h1, ia, mm.f, by rw [upd_ne (ne rfl ep)]; exact mm.q, mm.m⟩
/-- that object is written -/
theorem Rep.wr {D : Addr} {o o' : HO} (R : Rep K mg J (upd pr D o) env σ F H) (q : pr D = none) (ho : NT o') (hx : ∀ φ, o ≠ .ext φ) : Rep K mg J (upd pr D o') env σ F (upd H D o') := by
  have hD := R.st.prk D o upd_same
  have mD : ¬ J.mt D := fun z => by
    have := (R.st.mtF D z).2
    rw [upd_same] at this
    cases this
  refine ⟨⟨fun b x e => ?_, fun b x e => ?_, J.stay F H _ _ R.st.inv (Same.refl _) (fun b mt => upd_ne (fun z => mD (z ▸ mt))) (fun b φ h => (upd_ne (fun z => by subst z; rw [hD.1] at h; exact hx φ (Option.some.inj h))).trans h), fun b mt => ?_, fun b x e => ?_⟩, R.len, fun i s u e1 e2 => ?_, R.dis⟩
  · rw [upd_ne (ne_of_none e hD.2)]
    exact R.st.sub b x e
  · by_cases hb : b = D
    · subst hb
      rw [upd_same] at e ⊢
      exact ⟨e, hD.2⟩
    · rw [upd_ne hb] at e
      rw [upd_ne hb]
      exact R.st.prk b x (by rw [upd_ne hb]; exact e)
  · have hb : b ≠ D := fun z => mD (z ▸ mt)
    have := R.st.mtF b mt
    rw [upd_ne hb] at this ⊢
    exact this
  · rcases e with e | e
    · exact R.st.nt b x (.inl e)
    · by_cases hb : b = D
      · subst hb
        rw [upd_same] at e
        cases e
        exact ho
      · rw [upd_ne hb] at e
        exact R.st.nt b x (.inr (by rw [upd_ne hb]; exact e))
  · have hh := R.sl i s u e1 e2
    have ne : ∀ {p : Addr}, upd pr D o p = none → p ≠ D := fun {p} hp z => by
      subst z
      rw [upd_same] at hp
      cases hp
    cases s with
    | no => trivial
    | val d => exact hh
    | own xs =>
      obtain ⟨p, vs, ep, h1, ia, mm⟩ := hh
      have n := ne mm.q
      exact ⟨p, vs, ep, by rw [upd_ne n]; exact h1, ia, mm.f, by have := mm.q; rw [upd_ne n] at this ⊢; exact this, mm.m⟩
    | lat a0 xs =>
      obtain ⟨p, vs, ep, h1, ia, mm⟩ := hh
      have n := ne mm.q
      exact ⟨p, vs, ep, by rw [upd_ne n]; exact h1, ia, mm.f, by have := mm.q; rw [upd_ne n] at this ⊢; exact this, mm.m⟩
    | dk xs =>
      obtain ⟨p, vs, ep, h1, ia, mm⟩ := hh
      have n := ne mm.q
      exact ⟨p, vs, ep, by rw [upd_ne n]; exact h1, ia, mm.f, by have := mm.q; rw [upd_ne n] at this ⊢; exact this, mm.m⟩
    | dt xs =>
      obtain ⟨p, vs, ep, h1, ia, mm⟩ := hh
      have n := ne mm.q
      exact ⟨p, vs, ep, by rw [upd_ne n]; exact h1, ia, mm.f, by have := mm.q; rw [upd_ne n] at this ⊢; exact this, mm.m⟩
/-- .. and given back: it is ours -/
theorem Rep.less {D : Addr} {o : HO} (R : Rep K mg J (upd pr D o) env σ F H) (q : pr D = none) : Rep K mg J pr env σ F H ∧ H D = some o ∧ Mine J pr F D ∧ ∀ (i : Nat) (s : Sl), env[i]? = some s → s.isOwn = true → σ[i]? ≠ some (some (.ref D)) := by
  have hD := R.st.prk D o upd_same
  have mD : ¬ J.mt D := fun z => by
    have := (R.st.mtF D z).2
    rw [upd_same] at this
    cases this
  have ne : ∀ {p : Addr}, upd pr D o p = none → p ≠ D ∧ pr p = none := fun {p} hp => by
    have n : p ≠ D := fun z => by
      subst z
      rw [upd_same] at hp
      cases hp
    rw [upd_ne n] at hp
    exact ⟨n, hp⟩
  refine ⟨⟨⟨R.st.sub, fun b x e => ?_, R.st.inv, fun b mt => ⟨(R.st.mtF b mt).1, (ne (R.st.mtF b mt).2).2⟩, fun b x e => e.elim (fun e => R.st.nt b x (.inl e)) fun e => R.st.nt b x (.inr (by rw [upd_ne (ne_of_none e q)]; exact e))⟩, R.len, fun i s u e1 e2 => ?_, R.dis⟩, hD.1, ⟨hD.2, q, mD⟩, fun i s e1 hs e2 => ?_⟩
  · have hb : b ≠ D := ne_of_none e q
    exact R.st.prk b x (by rw [upd_ne hb]; exact e)
  · have hh := R.sl i s u e1 e2
    cases s with
    | no => trivial
    | val d => exact hh
    | own xs =>
      obtain ⟨p, vs, ep, h1, ia, mm⟩ := hh
      exact ⟨p, vs, ep, h1, ia, mm.f, (ne mm.q).2, mm.m⟩
    | lat a0 xs =>
      obtain ⟨p, vs, ep, h1, ia, mm⟩ := hh
      exact ⟨p, vs, ep, h1, ia, mm.f, (ne mm.q).2, mm.m⟩
    | dk xs =>
      obtain ⟨p, vs, ep, h1, ia, mm⟩ := hh
      exact ⟨p, vs, ep, h1, ia, mm.f, (ne mm.q).2, mm.m⟩
    | dt xs =>
      obtain ⟨p, vs, ep, h1, ia, mm⟩ := hh
      exact ⟨p, vs, ep, h1, ia, mm.f, (ne mm.q).2, mm.m⟩
  · have hh := R.sl i s _ e1 e2
    cases s with
    | no => cases hs
    | val d => cases hs
    | own xs =>
      obtain ⟨p, vs, ep, h1, ia, mm⟩ := hh
      cases ep
      exact (ne mm.q).1 rfl
    | lat a0 xs =>
      obtain ⟨p, vs, ep, h1, ia, mm⟩ := hh
      cases ep
      exact (ne mm.q).1 rfl
    | dk xs =>
      obtain ⟨p, vs, ep, h1, ia, mm⟩ := hh
      cases ep
      exact (ne mm.q).1 rfl
    | dt xs =>
      obtain ⟨p, vs, ep, h1, ia, mm⟩ := hh
      cases ep
      exact (ne mm.q).1 rfl
end
end DL

/-! DL6: comprehensions. -/
namespace DL
open PySem PySem.Spec PyProof.Rows L2

section
variable (K : PySem.W.Frag) (mg : Str → Option Value) (J : GJ)
def xE (w : WE) : TE := fun σ H Q => ∃ pr, tE K mg J pr w σ H Q
def xT (w : WT) : TT := fun σ H Q => ∃ pr, tTs K mg J pr w σ H Q
/-- a new list comes, its items known; nobody else's -/
def tNew (σ : L2.St) (pr F : Hp) (fin : List D → En → Prop) (Q : VK) : Prop := ∀ acc env' va (D : Addr) (F' H' : Hp), Rep K mg J pr env' σ F' H' → Same F F' → H' D = some (.lst va) → Mine J pr F' D →
  (∀ (i : Nat) (s : Sl), env'[i]? = some s → s.isOwn = true → σ[i]? ≠ some (some (.ref D))) → IsA K mg F' va acc → fin acc env' → Q (.ref D) H'
end
section
variable {X : Cx} {J : GJ} {e : Expr}
theorem DE.x {w : WE} (h : DE X J e w) : PE X e (xE X.K X.mg J w) := ⟨fun pins s σ H Q I ⟨pr, q⟩ => (h.run pr).run pins s σ H Q I q⟩
theorem DTs.x {ifs : List Expr} {w : WT} (h : DTs X J ifs w) : PTs X ifs (xT X.K X.mg J w) := ⟨fun pins s σ H Q I ⟨pr, q⟩ => (h.run pr).run pins s σ H Q I q⟩
end

theorem wipe_eq {σ σ2 : L2.St} {vs : List Nat} (h : ∀ i, i ∉ vs → σ2[i]? = (L2.wipe σ vs)[i]?) (l : σ2.length = (L2.wipe σ vs).length) : L2.wipe σ2 vs = L2.wipe σ vs := by
  have at_ : ∀ (τ : L2.St) (us : List Nat) (i : Nat), i ∈ us → i < τ.length → (L2.wipe τ us)[i]? = some none := by
    intro τ us
    induction us with
    | nil => intro i hi; cases hi
    | cons u us ih =>
      intro i hi hl
      unfold L2.wipe
      by_cases hu : u = i
      · subst hu
        exact List.getElem?_set_self (by rw [wipe_length]; exact hl)
      · rw [List.getElem?_set_ne hu]
        exact ih i ((List.mem_cons.mp hi).resolve_left fun z => hu z.symm) hl
  have l' : σ2.length = σ.length := by rw [l, wipe_length]
  refine List.ext_getElem? fun i => ?_
  by_cases hi : i ∈ vs
  · by_cases hl : i < σ.length
    · rw [at_ σ2 vs i hi (by omega), at_ σ vs i hi hl]
    · rw [List.getElem?_eq_none (by rw [wipe_length]; omega), List.getElem?_eq_none (by rw [wipe_length]; omega)]
  · rw [wipe_get hi, wipe_get hi]
    have := h i hi
    rwa [wipe_get hi] at this

section
variable {K : PySem.W.Frag} {mg : Str → Option Value} {J : GJ}
theorem Rep.apart {pr F H : Hp} {env : En} {σ : L2.St} (R : Rep K mg J pr env σ F H) {D : Addr} (n : H D = none) : Mine J pr F D ∧ ∀ (i : Nat) (s : Sl), env[i]? = some s → s.isOwn = true → σ[i]? ≠ some (some (.ref D)) := by
  refine ⟨⟨R.st.sub.free n, ?_, fun m => J.at_ F H D R.st.inv m n⟩, fun i s e1 hs e2 => ?_⟩
  · cases q : pr D with
    | none => rfl
    | some o =>
      rw [(R.st.prk D o q).1] at n
      cases n
  · have hh := R.sl i s _ e1 e2
    cases s with
    | no => cases hs
    | val d => cases hs
    | own xs =>
      obtain ⟨p, vs, ep, h1, _⟩ := hh
      cases ep
      rw [n] at h1
      cases h1
    | lat a0 xs =>
      obtain ⟨p, vs, ep, h1, _⟩ := hh
      cases ep
      rw [n] at h1
      cases h1
    | dk xs =>
      obtain ⟨p, vs, ep, h1, _⟩ := hh
      cases ep
      rw [n] at h1
      cases h1
    | dt xs =>
      obtain ⟨p, vs, ep, h1, _⟩ := hh
      cases ep
      rw [n] at h1
      cases h1
/-- the invariant of a comprehension -/
def LcW (K : PySem.W.Frag) (mg : Str → Option Value) (J : GJ) (pr F1 : Hp) (L : Addr) (τ : L2.St) (n : Nat) (go : Nat → List D → En → Prop) (i m : Nat) (H : Hp) : Prop :=
  ∃ acc va env F, Rep K mg J (upd pr L (.lst va)) env τ F H ∧ Same F1 F ∧ IsA K mg F va acc ∧ m = n - i ∧ i ≤ n ∧ go i acc env
theorem lc_rest {vs : List Nat} {g : WG} {tt : WT} {te : WE} {σ : L2.St} {H1 : Hp} {Q : VK} {pr : Hp} {e1 : En} {F1 : Hp} {fin : List D → En → Prop} {It : L2.It} {xs : List D} (R1 : Rep K mg J pr e1 σ F1 H1) (itok : ∀ pr', ItOk K mg J pr' It F1 xs)
    (fr : freeE e1 vs) (hgo : lcGo vs g tt te (fun acc e => fin acc (backE e1 e vs)) xs [] (wipeE e1 vs)) (k : tNew K mg J σ pr F1 fin Q) : tLc (fun _ H R => R It H) (tG K mg J vs g) (xT K mg J tt) (xE K mg J te) vs σ H1 Q := by
  intro D n
  obtain ⟨mD, al⟩ := R1.apart n
  refine ⟨LcW K mg J pr F1 D (L2.wipe σ vs) xs.length fun i acc e => lcGo vs g tt te (fun acc e => fin acc (backE e1 e vs)) (xs.drop i) acc e, ⟨xs.length, [], [], wipeE e1 vs, F1, ?_, Same.refl _, .nil, by omega, Nat.zero_le _, hgo⟩, ?_⟩
  · have R2 := (R1.wipe vs).stp ((R1.wipe vs).st.made (o := .lst []) n)
    obtain ⟨_, al'⟩ := (R1.wipe vs).apart n
    exact R2.more upd_same mD nt_lst al'
  · rintro i m Hc ⟨acc, va, env', F', R', s', ia, rfl, hi, hg'⟩
    by_cases hlt : i < xs.length
    · refine .inr ⟨(itok pr).go i F' Hc s' R'.st.sub hlt, fun H' => ∃ m', m' < xs.length - i ∧ LcW K mg J pr F1 D (L2.wipe σ vs) xs.length (fun i acc e => lcGo vs g tt te (fun acc e => fin acc (backE e1 e vs)) (xs.drop i) acc e) (i + 1) m' H', fun _ h => h, fun x H' hy => ?_⟩
      obtain ⟨F2, d, hd, t, ix⟩ := (itok _).yld i F' Hc x H' s' R'.st hlt hy
      have hdr : xs.drop i = d :: xs.drop (i + 1) := by
        obtain ⟨hl, e⟩ := List.getElem?_eq_some_iff.mp hd
        rw [List.drop_eq_getElem_cons hl, e]
      rw [hdr] at hg'
      refine ⟨_, env', F2, d, _, R'.stp t, ix, hg', fun env2 σ2 F3 H3 R3 s3 keep len hq => ?_⟩
      have ew : L2.wipe σ2 vs = L2.wipe σ vs := wipe_eq keep len
      refine ⟨ew, _, env2, F3, _, R3, hq, fun b env3 F4 H4 R4 s4 hq4 => ?_⟩
      have sF : Same F1 F4 := ((s'.trans t.ff).trans s3).trans s4
      have iaF : IsA K mg F4 va acc := ((ia.mono t.ff).mono s3).mono s4
      cases b with
      | true =>
        refine ⟨_, env3, F4, _, R4, hq4, fun y env5 v F5 H5 R5 s5 iy ⟨hl, hgo'⟩ => ?_⟩
        refine ⟨va, (R5.st.prk D _ upd_same).1, by rw [ia.length]; exact hl, xs.length - (i + 1), by omega, acc ++ [y], va ++ [v], wipeE env5 vs, F5, ?_, sF.trans s5, (iaF.mono s5).append (.cons iy .nil), rfl, by omega, hgo'⟩
        have R6 := R5.wipe vs
        rw [ew] at R6
        exact R6.wr mD.q nt_lst fun φ z => by cases z
      | false =>
        refine ⟨xs.length - (i + 1), by omega, acc, va, wipeE env3 vs, F4, ?_, sF, iaF, rfl, by omega, hq4⟩
        have R6 := R4.wipe vs
        rw [ew] at R6
        exact R6
    · have e : i = xs.length := by omega
      subst e
      refine .inl ⟨(itok pr).stop _ F' Hc s' R'.st.sub (Nat.le_refl _), ?_⟩
      rw [List.drop_length] at hg'
      obtain ⟨R2, h1, m2, al2⟩ := R'.less mD.q
      refine k acc _ va D F' Hc (R1.back fr R2 s') s' h1 m2 (fun j s e1 hs e2 => ?_) ia hg'
      rcases backE_get e1 with ⟨h3, h4⟩ | ⟨h3, h4⟩
      · rw [h3, fr j h4] at hs
        cases hs
      · exact al2 j s h3 hs (by rw [wipe_get h4]; exact e2)
theorem lc_of {vs : List Nat} {wi : WI} {g : WG} {tt : WT} {te : WE} {σ : L2.St} {H : Hp} {Q : VK} {pr : Hp} {env : En} {F : Hp} {fin : List D → En → Prop} (R : Rep K mg J pr env σ F H)
    (hw : wi env fun xs e1 => freeE e1 vs ∧ lcGo vs g tt te (fun acc e => fin acc (backE e1 e vs)) xs [] (wipeE e1 vs)) (k : tNew K mg J σ pr F fin Q) : tLc (tI K mg J wi) (tG K mg J vs g) (xT K mg J tt) (xE K mg J te) vs σ H Q := by
  refine ⟨pr, env, F, _, R, hw, fun It xs e1 F1 H1 R1 s1 itok ⟨fr, hgo⟩ => lc_rest R1 itok fr hgo fun acc env' va D F' H' R' s => k acc env' va D F' H' R' (s1.trans s)⟩
theorem new_frz {σ : L2.St} {pr F : Hp} {q : D → En → Prop} {Q : VK} (k : ∀ d env' v F' H', Rep K mg J pr env' σ F' H' → Same F F' → Is K mg F' v d → q d env' → Q v H') : tNew K mg J σ pr F (fun acc e => q (.lst acc) e) Q := by
  intro acc env' va D F' H' R s h m al ia hq
  have sm : Same F' (upd F' D (.lst va)) := same_upd' m.f
  refine k _ env' _ (upd F' D (.lst va)) H' ⟨R.st.freeze h m.f m.q m.m nt_lst, R.len, fun i s o e1 e2 => ?_, R.dis⟩ (s.trans sm) (.lst upd_same (ia.mono sm)) hq
  have hh := R.sl i s o e1 e2
  have ne : ∀ {p : Addr}, s.isOwn = true → o = some (.ref p) → p ≠ D := fun {p} hs ho z => by
    subst z
    exact al i s e1 hs (by rw [e2, ho])
  cases s with
  | no => trivial
  | val d =>
    obtain ⟨v, ev, iv⟩ := hh
    exact ⟨v, ev, iv.mono sm⟩
  | own xs =>
    obtain ⟨p, vs, ep, h1, ia, mm⟩ := hh
    exact ⟨p, vs, ep, h1, ia.mono sm, by rw [upd_ne (ne rfl ep)]; exact mm.f, mm.q, mm.m⟩
  | lat a0 xs =>
    obtain ⟨p, vs, ep, h1, ia, mm⟩ := hh
    exact ⟨p, vs, ep, h1, ia.mono sm, by rw [upd_ne (ne rfl ep)]; exact mm.f, mm.q, mm.m⟩
  | dk xs =>
    obtain ⟨p, vs, ep, h1, ia, mm⟩ := hh
    exact ⟨p, vs, ep, h1, ia.mono sm, by rw [upd_ne (ne rfl ep)]; exact mm.f, mm.q, mm.m⟩
  | dt xs =>
    obtain ⟨p, vs, ep, h1, ia, mm⟩ := hh
    exact ⟨p, vs, ep, h1, ia.mono sm, by rw [upd_ne (ne rfl ep)]; exact mm.f, mm.q, mm.m⟩

/-! two clauses -/
def lc2In (vs vs1 : List Nat) (g1 : WG) (tt1 : WT) (te : WE) (nx : List D → En → Prop) : List D → List D → En → Prop
  | [], acc, env => nx acc env
  | x :: xs, acc, env => g1 x env fun e2 => tt1 e2 fun b e3 => if b = true then te e3 fun y e4 => acc.length < sizeLine ∧ lc2In vs vs1 g1 tt1 te nx xs (acc ++ [y]) (wipeE e4 vs1) else lc2In vs vs1 g1 tt1 te nx xs acc (wipeE e3 vs1)
def lc2Go (vs vs1 : List Nat) (g : WG) (tt : WT) (wi1 : WI) (g1 : WG) (tt1 : WT) (te : WE) (fin : List D → En → Prop) : List D → List D → En → Prop
  | [], acc, env => fin acc env
  | x :: xs, acc, env => g x env fun e2 => tt e2 fun b e3 => if b = true then wi1 e3 fun ys e4 => lc2In vs vs1 g1 tt1 te (fun acc e => lc2Go vs vs1 g tt wi1 g1 tt1 te fin xs acc (wipeE e vs)) ys acc (wipeE e4 vs1)
    else lc2Go vs vs1 g tt wi1 g1 tt1 te fin xs acc (wipeE e3 vs)
@[simp] def wLC2 (vs vs1 : List Nat) (wi : WI) (g : WG) (tt : WT) (wi1 : WI) (g1 : WG) (tt1 : WT) (te : WE) : WE := fun env q => wi env fun xs e1 => freeE e1 vs ∧ lc2Go vs vs1 g tt wi1 g1 tt1 te (fun acc e => q (.lst acc) (backE e1 e vs)) xs [] (wipeE e1 vs)
theorem wipe_sub {σ σ2 : L2.St} {vs vs1 : List Nat} (hv : ∀ i ∈ vs1, i ∈ vs) (h : L2.wipe σ vs1 = L2.wipe σ2 vs1) : L2.wipe σ vs = L2.wipe σ2 vs := by
  have hl : σ.length = σ2.length := by
    have := congrArg List.length h
    rwa [wipe_length, wipe_length] at this
  rw [← wipe_idem σ2 vs]
  refine wipe_eq (fun i hi => ?_) ?_
  · have hi1 : i ∉ vs1 := fun z => hi (hv i z)
    have := congrArg (fun l : L2.St => l[i]?) h
    simp only [wipe_get hi1] at this
    rw [wipe_get hi, wipe_get hi]
    exact this
  · rw [wipe_length, wipe_length, hl]
where wipe_idem (σ : L2.St) (vs : List Nat) : L2.wipe (L2.wipe σ vs) vs = L2.wipe σ vs := wipe_eq (fun i hi => rfl) rfl
theorem lc2_of {vs vs1 : List Nat} {wi wi1 : WI} {g g1 : WG} {tt tt1 : WT} {te : WE} {σ : L2.St} {H : Hp} {Q : VK} {pr : Hp} {env : En} {F : Hp} {fin : List D → En → Prop} (hv : ∀ i ∈ vs1, i ∈ vs) (R : Rep K mg J pr env σ F H)
    (hw : wi env fun xs e1 => freeE e1 vs ∧ lc2Go vs vs1 g tt wi1 g1 tt1 te (fun acc e => fin acc (backE e1 e vs)) xs [] (wipeE e1 vs)) (k : tNew K mg J σ pr F fin Q) :
    tLc2 (tI K mg J wi) (tG K mg J vs g) (xT K mg J tt) (tI K mg J wi1) (tG K mg J vs1 g1) (xT K mg J tt1) (xE K mg J te) vs vs1 σ H Q := by
  refine ⟨pr, env, F, _, R, hw, fun It xs e1 F1 H1 R1 s1 itok ⟨fr, hgo⟩ D n => ?_⟩
  obtain ⟨mD, al⟩ := R1.apart n
  refine ⟨LcW K mg J pr F1 D (L2.wipe σ vs) xs.length fun i acc e => lc2Go vs vs1 g tt wi1 g1 tt1 te (fun acc e => fin acc (backE e1 e vs)) (xs.drop i) acc e, ⟨xs.length, [], [], wipeE e1 vs, F1, ?_, Same.refl _, .nil, by omega, Nat.zero_le _, hgo⟩, ?_⟩
  · have R2 := (R1.wipe vs).stp ((R1.wipe vs).st.made (o := .lst []) n)
    obtain ⟨_, al'⟩ := (R1.wipe vs).apart n
    exact R2.more upd_same mD nt_lst al'
  · rintro i m Hc ⟨acc, va, env', F', R', s', ia, rfl, hi, hg'⟩
    by_cases hlt : i < xs.length
    · refine .inr ⟨(itok pr).go i F' Hc s' R'.st.sub hlt, fun H' => ∃ m', m' < xs.length - i ∧ LcW K mg J pr F1 D (L2.wipe σ vs) xs.length (fun i acc e => lc2Go vs vs1 g tt wi1 g1 tt1 te (fun acc e => fin acc (backE e1 e vs)) (xs.drop i) acc e) (i + 1) m' H', fun _ h => h, fun x H' hy => ?_⟩
      obtain ⟨F2, d, hd, t, ix⟩ := (itok _).yld i F' Hc x H' s' R'.st hlt hy
      have hdr : xs.drop i = d :: xs.drop (i + 1) := by
        obtain ⟨hl, e⟩ := List.getElem?_eq_some_iff.mp hd
        rw [List.drop_eq_getElem_cons hl, e]
      rw [hdr] at hg'
      refine ⟨_, env', F2, d, _, R'.stp t, ix, hg', fun env2 σ2 F3 H3 R3 s3 keep len hq => ?_⟩
      have ew : L2.wipe σ2 vs = L2.wipe σ vs := wipe_eq keep len
      refine ⟨ew, _, env2, F3, _, R3, hq, fun b env3 F4 H4 R4 s4 hq4 => ?_⟩
      have sF : Same F1 F4 := ((s'.trans t.ff).trans s3).trans s4
      have iaF : IsA K mg F4 va acc := ((ia.mono t.ff).mono s3).mono s4
      cases b with
      | false =>
        refine ⟨xs.length - (i + 1), by omega, acc, va, wipeE env3 vs, F4, ?_, sF, iaF, rfl, by omega, hq4⟩
        have R6 := R4.wipe vs
        rw [ew] at R6
        exact R6
      | true =>
        refine ⟨_, env3, F4, _, R4, hq4, fun It1 ys e4 F5 H5 R5 s5 itok1 hin => ?_⟩
        refine ⟨LcW K mg J pr F5 D (L2.wipe σ2 vs1) ys.length fun j acc e => lc2In vs vs1 g1 tt1 te (fun acc e => lc2Go vs vs1 g tt wi1 g1 tt1 te (fun acc e => fin acc (backE e1 e vs)) (xs.drop (i + 1)) acc (wipeE e vs)) (ys.drop j) acc e,
          ⟨ys.length, acc, va, wipeE e4 vs1, F5, R5.wipe vs1, Same.refl _, iaF.mono s5, by omega, Nat.zero_le _, hin⟩, ?_⟩
        rintro j m' Hd ⟨acc', va', env6, F6, R6, s6, ia6, rfl, hj, hg6⟩
        by_cases hjl : j < ys.length
        · refine .inr ⟨(itok1 pr).go j F6 Hd s6 R6.st.sub hjl, fun H' => ∃ m', m' < ys.length - j ∧ LcW K mg J pr F5 D (L2.wipe σ2 vs1) ys.length (fun j acc e => lc2In vs vs1 g1 tt1 te (fun acc e => lc2Go vs vs1 g tt wi1 g1 tt1 te (fun acc e => fin acc (backE e1 e vs)) (xs.drop (i + 1)) acc (wipeE e vs)) (ys.drop j) acc e) (j + 1) m' H', fun _ h => h, fun z H' hz => ?_⟩
          obtain ⟨F7, dz, hdz, t7, iz⟩ := (itok1 _).yld j F6 Hd z H' s6 R6.st hjl hz
          have hdy : ys.drop j = dz :: ys.drop (j + 1) := by
            obtain ⟨hl, e⟩ := List.getElem?_eq_some_iff.mp hdz
            rw [List.drop_eq_getElem_cons hl, e]
          rw [hdy] at hg6
          refine ⟨_, env6, F7, dz, _, R6.stp t7, iz, hg6, fun env8 σ8 F8 H8 R8 s8 keep8 len8 hq8 => ?_⟩
          have ew1 : L2.wipe σ8 vs1 = L2.wipe σ2 vs1 := wipe_eq keep8 len8
          refine ⟨ew1, _, env8, F8, _, R8, hq8, fun b env9 F9 H9 R9 s9 hq9 => ?_⟩
          have sF9 : Same F5 F9 := ((s6.trans t7.ff).trans s8).trans s9
          have iaF9 : IsA K mg F9 va' acc' := ((ia6.mono t7.ff).mono s8).mono s9
          cases b with
          | true =>
            refine ⟨_, env9, F9, _, R9, hq9, fun y envA v FA HA RA sA iy ⟨hl, hgo'⟩ => ?_⟩
            refine ⟨va', (RA.st.prk D _ upd_same).1, by rw [ia6.length]; exact hl, ys.length - (j + 1), by omega, acc' ++ [y], va' ++ [v], wipeE envA vs1, FA, ?_, sF9.trans sA, (iaF9.mono sA).append (.cons iy .nil), rfl, by omega, hgo'⟩
            have RB := RA.wipe vs1
            rw [ew1] at RB
            exact RB.wr mD.q nt_lst fun φ z => by cases z
          | false =>
            refine ⟨ys.length - (j + 1), by omega, acc', va', wipeE env9 vs1, F9, ?_, sF9, iaF9, rfl, by omega, hq9⟩
            have RB := R9.wipe vs1
            rw [ew1] at RB
            exact RB
        · have e : j = ys.length := by omega
          subst e
          refine .inl ⟨(itok1 pr).stop _ F6 Hd s6 R6.st.sub (Nat.le_refl _), ?_⟩
          rw [List.drop_length] at hg6
          refine ⟨xs.length - (i + 1), by omega, acc', va', wipeE env6 vs, F6, ?_, (sF.trans s5).trans s6, ia6, rfl, by omega, hg6⟩
          have RB := R6.wipe vs
          have e2 : L2.wipe (L2.wipe σ2 vs1) vs = L2.wipe σ2 vs := wipe_sub hv (wipe_sub.wipe_idem σ2 vs1)
          rw [e2, ew] at RB
          exact RB
    · have e : i = xs.length := by omega
      subst e
      refine .inl ⟨(itok pr).stop _ F' Hc s' R'.st.sub (Nat.le_refl _), ?_⟩
      rw [List.drop_length] at hg'
      obtain ⟨R2, h1, m2, al2⟩ := R'.less mD.q
      refine k acc _ va D F' Hc (R1.back fr R2 s') (s1.trans s') h1 m2 (fun j s e1 hs e2 => ?_) ia hg'
      rcases backE_get e1 with ⟨h3, h4⟩ | ⟨h3, h4⟩
      · rw [h3, fr j h4] at hs
        cases hs
      · exact al2 j s h3 hs (by rw [wipe_get h4]; exact e2)
end

section
variable {X : Cx} {J : GJ} {elt tg iter tg1 iter1 : Expr} {ifs ifs1 : List Expr} {scope : Scope} {own : List (Str × Nat)} {vs1 : List Nat} {pos : Pos} {wi wi1 : WI} {g g1 : WG} {tt tt1 : WT} {te : WE}
/-- the contexts of a comprehension's block -/
abbrev InBlk (X : Cx) (scope : Scope) (P : Cx → Prop) : Prop := ∀ (s : Shared) (H : Hp) (C : Addr) (cl : List (Str × Addr)) (fp : List Addr), P (X.blk s H scope (compEnvC scope cl C X.env) fp)
theorem de_lc (hc : X.calm = true) (hN : X.N.Nodup) (hi : DI X J tg iter wi) (ok : BlkOk X.N X.env.scope scope own) (hg : InBlk X scope fun Y => DG Y J tg (own.map (·.2)) g) (ht : InBlk X scope fun Y => DTs Y J ifs tt) (he : InBlk X scope fun Y => DE Y J elt te)
    (hs : ∀ x, foldedSetIterable iter X.env x = pure x := by intro _; rfl) : DE X J (.ListComp elt [⟨tg, iter, ifs, 0⟩] scope pos) (wLC (own.map (·.2)) wi g tt te) :=
  ⟨fun pr => PE.imp (pe_lc hc hN hi.run ok (fun s H C cl fp => (hg s H C cl fp).run) (fun s H C cl fp => (ht s H C cl fp).x) (fun s H C cl fp => (he s H C cl fp).x) hs) fun σ H Q ⟨env, F, q, R, hw, k⟩ => lc_of R hw (new_frz k)⟩
theorem de_lc2 (hc : X.calm = true) (hN : X.N.Nodup) (hi : DI X J tg iter wi) (ok : BlkOk X.N X.env.scope scope own) (hv : ∀ i ∈ vs1, i ∈ own.map (·.2)) (hg : InBlk X scope fun Y => DG Y J tg (own.map (·.2)) g) (ht : InBlk X scope fun Y => DTs Y J ifs tt)
    (hi1 : InBlk X scope fun Y => DI Y J tg1 iter1 wi1) (hg1 : InBlk X scope fun Y => DG Y J tg1 vs1 g1) (ht1 : InBlk X scope fun Y => DTs Y J ifs1 tt1) (he : InBlk X scope fun Y => DE Y J elt te)
    (hs : ∀ x, foldedSetIterable iter X.env x = pure x := by intro _; rfl) (hs1 : ∀ env x, foldedSetIterable iter1 env x = pure x := by intro _ _; rfl) : DE X J (.ListComp elt [⟨tg, iter, ifs, 0⟩, ⟨tg1, iter1, ifs1, 0⟩] scope pos) (wLC2 (own.map (·.2)) vs1 wi g tt wi1 g1 tt1 te) :=
  ⟨fun pr => PE.imp (pe_lc2 hc hN hi.run ok hv (fun s H C cl fp => (hg s H C cl fp).run) (fun s H C cl fp => (ht s H C cl fp).x) (fun s H C cl fp => (hi1 s H C cl fp).run) (fun s H C cl fp => (hg1 s H C cl fp).run) (fun s H C cl fp => (ht1 s H C cl fp).x) (fun s H C cl fp => (he s H C cl fp).x) hs hs1)
    fun σ H Q ⟨env, F, q, R, hw, k⟩ => lc2_of hv R hw (new_frz k)⟩
theorem DG.wide {X : Cx} {J : GJ} {tg : Expr} {vs us : List Nat} {w : WG} (h : DG X J tg vs w) (hv : ∀ i ∈ vs, i ∈ us) : DG X J tg us w :=
  ⟨PG.imp h.run fun v σ H Q ⟨pr, env, F, d, q, R, iv, hw, k⟩ => ⟨pr, env, F, d, q, R, iv, hw, fun env' σ' F' H' R' s' f l hq => k env' σ' F' H' R' s' (fun i hi => f i fun z => hi (hv i z)) l hq⟩⟩
end
end DL

/-! DL7: statements, and a def's promise from its body. -/
namespace DL
open PySem PySem.Spec PyProof.Rows L2

structure DEnds where
  nx : En → Prop
  rt : D → En → Prop
  bk : En → Prop := fun _ => False
  ct : En → Prop := fun _ => False
abbrev WS := En → DEnds → Prop
abbrev WV := En → (Sl → En → Prop) → Prop
section
variable (K : PySem.W.Frag) (mg : Str → Option Value) (J : GJ) (pr : Hp)
structure LeE (F : Hp) (E : DEnds) (Z : Ends) : Prop where
  nx : ∀ env' σ' F' H', Rep K mg J pr env' σ' F' H' → Same F F' → E.nx env' → Z.nx σ' H'
  rt : ∀ d v env' σ' F' H', Rep K mg J pr env' σ' F' H' → Same F F' → Is K mg F' v d → E.rt d env' → Z.rt v H'
  bk : ∀ env' σ' F' H', Rep K mg J pr env' σ' F' H' → Same F F' → E.bk env' → Z.bk σ' H'
  ct : ∀ env' σ' F' H', Rep K mg J pr env' σ' F' H' → Same F F' → E.ct env' → Z.ct σ' H'
end
def tS (K : PySem.W.Frag) (mg : Str → Option Value) (J : GJ) (w : WS) : TS := fun Z σ H => ∃ (pr : Hp) (env : En) (F : Hp) (E : DEnds), Rep K mg J pr env σ F H ∧ w env E ∧ LeE K mg J pr F E Z
structure DS (X : Cx) (J : GJ) (st : Stmt) (w : WS) : Prop where
  run : PS X st (tS X.K X.mg J w)
structure DSs (X : Cx) (J : GJ) (st : List Stmt) (w : WS) : Prop where
  run : PSs X st (tS X.K X.mg J w)
/-- a value on its way to a slot: data, or a thing just made that nobody owns yet -/
structure NeOk (K : PySem.W.Frag) (mg : Str → Option Value) (J : GJ) (pr : Hp) (env : En) (σ : L2.St) (F H : Hp) (v : V) (s : Sl) : Prop where
  ok : SlOk K mg J pr F H (some v) s
  al : s.isOwn = true → ∀ (i : Nat) (t : Sl), env[i]? = some t → t.isOwn = true → σ[i]? ≠ some (some v)
def tV (K : PySem.W.Frag) (mg : Str → Option Value) (J : GJ) (w : WV) : TE := fun σ H Q => ∃ (pr : Hp) (env : En) (F : Hp) (q : Sl → En → Prop), Rep K mg J pr env σ F H ∧ w env q ∧
  ∀ s env' v F' H', Rep K mg J pr env' σ F' H' → Same F F' → NeOk K mg J pr env' σ F' H' v s → q s env' → Q v H'
structure DV (X : Cx) (J : GJ) (e : Expr) (w : WV) : Prop where
  run : PE X e (tV X.K X.mg J w)

section
variable {K : PySem.W.Frag} {mg : Str → Option Value} {J : GJ} {pr F F' H H' : Hp} {env : En} {σ : L2.St} {v : V} {s : Sl}
theorem LeE.mono {E : DEnds} {Z : Ends} (h : LeE K mg J pr F E Z) (s : Same F F') : LeE K mg J pr F' E Z :=
  ⟨fun e σ F H R t => h.nx e σ F H R (s.trans t), fun d v e σ F H R t => h.rt d v e σ F H R (s.trans t), fun e σ F H R t => h.bk e σ F H R (s.trans t), fun e σ F H R t => h.ct e σ F H R (s.trans t)⟩
theorem Rep.put (R : Rep K mg J pr env σ F H) {i : Nat} (h : NeOk K mg J pr env σ F H v s) : Rep K mg J pr (env.set i s) (σ.set i (some v)) F H := by
  refine ⟨R.st, by rw [List.length_set, List.length_set]; exact R.len, fun j t o e1 e2 => ?_, fun j k t t' ne e1 e2 ht ht' => ?_⟩
  · by_cases hj : i = j
    · subst hj
      obtain ⟨hl, e1⟩ := List.getElem?_eq_some_iff.mp e1
      obtain ⟨hl', e2⟩ := List.getElem?_eq_some_iff.mp e2
      simp only [List.getElem_set_self] at e1 e2
      subst e1 e2
      exact h.ok
    · rw [List.getElem?_set_ne hj] at e1 e2
      exact R.sl j t o e1 e2
  · have here : ∀ {j : Nat} {t : Sl}, (env.set i s)[j]? = some t → i = j → (σ.set i (some v))[j]? = some (some v) ∧ t = s := fun {j t} ej hj => by
      subst hj
      obtain ⟨hl, ej⟩ := List.getElem?_eq_some_iff.mp ej
      simp only [List.getElem_set_self] at ej
      rw [List.length_set] at hl
      exact ⟨List.getElem?_set_self (by rw [← R.len]; exact hl), ej.symm⟩
    by_cases hj : i = j
    · have hk : i ≠ k := fun z => ne (hj.symm.trans z)
      obtain ⟨f1, rfl⟩ := here e1 hj
      rw [f1, List.getElem?_set_ne hk]
      rw [List.getElem?_set_ne hk] at e2
      exact fun z => h.al ht k t' e2 ht' z.symm
    · rw [List.getElem?_set_ne hj] at e1
      rw [List.getElem?_set_ne hj]
      by_cases hk : i = k
      · obtain ⟨g1, rfl⟩ := here e2 hk
        rw [g1]
        exact h.al ht' j t e1 ht
      · rw [List.getElem?_set_ne hk] at e2
        rw [List.getElem?_set_ne hk]
        exact R.dis j k t t' ne e1 e2 ht ht'
theorem NeOk.val {d : D} (h : Is K mg F v d) : NeOk K mg J pr env σ F H v (.val d) := ⟨⟨v, rfl, h⟩, fun z => by cases z⟩
/-- an owned object, its address and content -/
theorem SlOk.obj (h : SlOk K mg J pr F H (some v) s) (hs : s.isOwn = true) : ∃ p o, v = .ref p ∧ H p = some o ∧ Mine J pr F p ∧ NT o := by
  cases s with
  | no => cases hs
  | val d => cases hs
  | own xs =>
    obtain ⟨p, vs, e, h1, _, m⟩ := h
    cases e
    exact ⟨p, _, rfl, h1, m, nt_lst⟩
  | lat a0 xs =>
    obtain ⟨p, vs, e, h1, _, m⟩ := h
    cases e
    exact ⟨p, _, rfl, h1, m, nt_lst⟩
  | dk xs =>
    obtain ⟨p, vs, e, h1, _, m⟩ := h
    cases e
    exact ⟨p, _, rfl, h1, m, nt_dK⟩
  | dt xs =>
    obtain ⟨p, vs, e, h1, _, m⟩ := h
    cases e
    exact ⟨p, _, rfl, h1, m, nt_dT⟩
/-- the same thing later on: its object stands, nothing of it was laid down -/
theorem SlOk.later {pr' : Hp} (h : SlOk K mg J pr F H (some v) s) (ff : Same F F') (hh : ∀ p o, v = .ref p → H p = some o → H' p = some o) (m : ∀ p, v = .ref p → Mine J pr F p → Mine J pr' F' p) : SlOk K mg J pr' F' H' (some v) s := by
  cases s with
  | no => trivial
  | val d =>
    obtain ⟨u, e, i⟩ := h
    exact ⟨u, e, i.mono ff⟩
  | own xs =>
    obtain ⟨p, vs, e, h1, i, mm⟩ := h
    exact ⟨p, vs, e, hh p _ (Option.some.inj e) h1, i.mono ff, m p (Option.some.inj e) mm⟩
  | lat a0 xs =>
    obtain ⟨p, vs, e, h1, i, mm⟩ := h
    exact ⟨p, vs, e, hh p _ (Option.some.inj e) h1, i.mono ff, m p (Option.some.inj e) mm⟩
  | dk xs =>
    obtain ⟨p, vs, e, h1, i, mm⟩ := h
    exact ⟨p, vs, e, hh p _ (Option.some.inj e) h1, i.mono ff, m p (Option.some.inj e) mm⟩
  | dt xs =>
    obtain ⟨p, vs, e, h1, i, mm⟩ := h
    exact ⟨p, vs, e, hh p _ (Option.some.inj e) h1, i.mono ff, m p (Option.some.inj e) mm⟩
end

/-! ### values for slots -/
@[simp] def wVal (w : WE) : WV := fun env q => w env fun d e1 => q (.val d) e1
@[simp] def wNewL (w : WA) : WV := fun env q => w env fun as e1 => ∃ ds, reals as = some ds ∧ ds.length ≤ 1000 ∧ q (.own ds) e1
@[simp] def wNewK : WV := fun env q => q (.dk []) env
@[simp] def wNewT : WV := fun env q => q (.dt []) env
@[simp] def wNewLC (vs : List Nat) (wi : WI) (g : WG) (tt : WT) (te : WE) : WV := fun env q => wi env fun xs e1 => freeE e1 vs ∧ lcGo vs g tt te (fun acc e => q (.own acc) (backE e1 e vs)) xs [] (wipeE e1 vs)
section
variable {X : Cx} {J : GJ} {e : Expr} {es : List Expr} {we : WE} {w : WA} {pos : Pos}
theorem dv_of (h : DE X J e we) : DV X J e (wVal we) :=
  ⟨PE.imp h.x fun σ H Q ⟨pr, env, F, q, R, hw, k⟩ => ⟨pr, env, F, _, R, hw, fun d env' v F' H' R' s i hq => k _ env' v F' H' R' s (.val i) hq⟩⟩
theorem dv_lst (h : DA X J es w) : DV X J (.List es pos) (wNewL w) := by
  refine ⟨⟨fun pins s σ H Q I ⟨pr, env, F, q, R, hw, k⟩ => (pe_lst (h.run pr)).run pins s σ H Q I ⟨env, F, _, R, hw, fun as e1 vs F1 H1 R1 s1 i1 ⟨ds, h1, hl, hq⟩ => ?_⟩⟩⟩
  have ia := i1.real h1
  refine ⟨by rw [ia.length, sizeLine_eq]; omega, fun p n => ?_⟩
  obtain ⟨m, al⟩ := R1.apart n
  exact k (.own ds) e1 _ F1 _ (R1.stp (R1.st.made n)) s1 ⟨⟨p, vs, rfl, upd_same, ia, m⟩, fun _ => al⟩ hq
theorem dv_dK : DV X J (.Dict [] [] pos) wNewK := by
  refine ⟨PE.imp pe_dnewK fun σ H Q ⟨pr, env, F, q, R, hw, k⟩ => fun p n => ?_⟩
  obtain ⟨m, al⟩ := R.apart n
  exact k (.dk []) env _ F _ (R.stp (R.st.made n)) (Same.refl _) ⟨⟨p, [], rfl, upd_same, .nil, m⟩, fun _ => al⟩ hw
theorem dv_dT : DV X J (.Dict [] [] pos) wNewT := by
  refine ⟨PE.imp pe_dnewT fun σ H Q ⟨pr, env, F, q, R, hw, k⟩ => fun p n => ?_⟩
  obtain ⟨m, al⟩ := R.apart n
  exact k (.dt []) env _ F _ (R.stp (R.st.made n)) (Same.refl _) ⟨⟨p, [], rfl, upd_same, .nil, m⟩, fun _ => al⟩ hw
theorem new_own {K : PySem.W.Frag} {mg : Str → Option Value} {σ : L2.St} {pr F : Hp} {q : Sl → En → Prop} {Q : VK} (k : ∀ s env' v F' H', Rep K mg J pr env' σ F' H' → Same F F' → NeOk K mg J pr env' σ F' H' v s → q s env' → Q v H') : tNew K mg J σ pr F (fun acc e => q (.own acc) e) Q :=
  fun acc env' va D F' H' R s h m al ia hq => k (.own acc) env' _ F' H' R s ⟨⟨D, va, rfl, h, ia, m⟩, fun _ => al⟩ hq
end
section
variable {X : Cx} {J : GJ} {elt tg iter : Expr} {ifs : List Expr} {scope : Scope} {own : List (Str × Nat)} {pos : Pos} {wi : WI} {g : WG} {tt : WT} {te : WE}
theorem dv_lc (hc : X.calm = true) (hN : X.N.Nodup) (hi : DI X J tg iter wi) (ok : BlkOk X.N X.env.scope scope own) (hg : InBlk X scope fun Y => DG Y J tg (own.map (·.2)) g) (ht : InBlk X scope fun Y => DTs Y J ifs tt) (he : InBlk X scope fun Y => DE Y J elt te)
    (hs : ∀ x, foldedSetIterable iter X.env x = pure x := by intro _; rfl) : DV X J (.ListComp elt [⟨tg, iter, ifs, 0⟩] scope pos) (wNewLC (own.map (·.2)) wi g tt te) :=
  ⟨PE.imp (pe_lc hc hN hi.run ok (fun s H C cl fp => (hg s H C cl fp).run) (fun s H C cl fp => (ht s H C cl fp).x) (fun s H C cl fp => (he s H C cl fp).x) hs) fun σ H Q ⟨pr, env, F, q, R, hw, k⟩ => lc_of R hw (new_own k)⟩
end

/-! ### blocks, stores, returns -/
@[simp] def sNil : WS := fun env E => E.nx env
@[simp] def sSeq (w u : WS) : WS := fun env E => w env { E with nx := fun e => u e E }
@[simp] def sSet (i : Nat) (w : WV) : WS := fun env E => w env fun s e1 => E.nx (e1.set i s)
@[simp] def sRet (w : WE) : WS := fun env E => w env fun d e1 => E.rt d e1
@[simp] def sRetN : WS := fun env E => E.rt .non env
@[simp] def sIf (t : WT) (w u : WS) : WS := fun env E => t env fun b e1 => if b = true then w e1 E else u e1 E
@[simp] def sDrop (w : WE) : WS := fun env E => w env fun _ e1 => E.nx e1
@[simp] def sNever : WS := fun _ _ => False
@[simp] def sBreak : WS := fun env E => E.bk env
@[simp] def sCont : WS := fun env E => E.ct env
section
variable {X : Cx} {J : GJ} {st : Stmt} {rest : List Stmt} {e : Expr} {w u : WS} {we : WE} {wv : WV} {wt : WT} {pos : Pos}
theorem PS.imp {t t' : TS} (h : PS X st t) (i : ∀ Z σ H, t' Z σ H → t Z σ H) : PS X st t' := ⟨fun pins s σ H Z I q => h.run pins s σ H Z I (i _ _ _ q)⟩
theorem PSs.imp {t t' : TS} (h : PSs X rest t) (i : ∀ Z σ H, t' Z σ H → t Z σ H) : PSs X rest t' := ⟨fun pins s σ H Z I q => h.run pins s σ H Z I (i _ _ _ q)⟩
theorem dss_nil : DSs X J [] sNil := ⟨PSs.imp pss_nil fun Z σ H ⟨pr, env, F, E, R, hw, le⟩ => le.nx env σ F H R (Same.refl _) hw⟩
theorem dss_cons (h : DS X J st w) (h' : DSs X J rest u) : DSs X J (st :: rest) (sSeq w u) :=
  ⟨PSs.imp (pss_cons h.run h'.run) fun Z σ H ⟨pr, env, F, E, R, hw, le⟩ => ⟨pr, env, F, _, R, hw, ⟨fun e' σ' F' H' R' s hq => ⟨pr, e', F', E, R', hq, le.mono s⟩, le.rt, le.bk, le.ct⟩⟩⟩
theorem dss_one (h : DS X J st w) : DSs X J [st] w := ⟨pss_one h.run⟩
theorem ds_set {i : Nat} {x : Str} {p : Pos} (hN : X.N.Nodup) (hi : X.N[i]? = some x) (hx : Loc X.env.scope x) (h : DV X J e wv) (hs : swapsWith e (some (.Name x p)) pos.line X.env = pure false := by rfl)
    (hf : X.fn x = true ∨ X.env.scope.names.lookup x = some .local := by first | exact .inl rfl | exact .inr rfl | assumption) : DS X J (.Assign [.Name x p] e pos) (sSet i wv) :=
  ⟨PS.imp (ps_set hN hi hx h.run hs hf) fun Z σ H ⟨pr, env, F, E, R, hw, le⟩ => ⟨pr, env, F, _, R, hw, fun s e1 v F1 H1 R1 s1 n hq => le.nx _ _ F1 H1 (R1.put n) s1 hq⟩⟩
theorem ds_ret (h : DE X J e we) : DS X J (.Return (some e) pos) (sRet we) :=
  ⟨PS.imp (ps_ret h.x) fun Z σ H ⟨pr, env, F, E, R, hw, le⟩ => ⟨pr, env, F, _, R, hw, fun d e1 v F1 H1 R1 s1 i hq => le.rt d v e1 σ F1 H1 R1 s1 i hq⟩⟩
theorem ds_retN : DS X J (.Return none pos) sRetN := ⟨PS.imp ps_retN fun Z σ H ⟨pr, env, F, E, R, hw, le⟩ => le.rt .non .non env σ F H R (Same.refl _) .non hw⟩
theorem xT_of {c : Expr} {wt : WT} (h : DT X J c wt) : PT X c (xT X.K X.mg J wt) := ⟨fun pins s σ H Q I ⟨pr, q⟩ => (h.run pr).run pins s σ H Q I q⟩
theorem ds_if {c : Expr} {a b : List Stmt} (hc : DT X J c wt) (ha : DSs X J a w) (hb : DSs X J b u) : DS X J (.If c a b pos) (sIf wt w u) := by
  refine ⟨PS.imp (ps_if (xT_of hc) ha.run hb.run) fun Z σ H ⟨pr, env, F, E, R, hw, le⟩ => ⟨pr, env, F, _, R, hw, fun b e1 F1 H1 R1 s1 hq => ?_⟩⟩
  cases b with
  | true => exact ⟨pr, e1, F1, E, R1, hq, le.mono s1⟩
  | false => exact ⟨pr, e1, F1, E, R1, hq, le.mono s1⟩
theorem ds_expr (h : DE X J e we) (hs : swapsWith e none pos.line X.env = pure false := by rfl) : DS X J (.Expr e pos) (sDrop we) :=
  ⟨PS.imp (ps_expr h.x hs) fun Z σ H ⟨pr, env, F, E, R, hw, le⟩ => ⟨pr, env, F, _, R, hw, fun d e1 v F1 H1 R1 s1 i hq => le.nx e1 σ F1 H1 R1 s1 hq⟩⟩
theorem ds_never : DS X J st sNever := ⟨PS.imp ps_never fun Z σ H ⟨pr, env, F, E, R, hw, le⟩ => hw.elim⟩
theorem dss_never : DSs X J rest sNever := ⟨PSs.imp pss_never fun Z σ H ⟨pr, env, F, E, R, hw, le⟩ => hw.elim⟩
theorem ds_break : DS X J (.Break pos) sBreak := ⟨PS.imp ps_break fun Z σ H ⟨pr, env, F, E, R, hw, le⟩ => le.bk env σ F H R (Same.refl _) hw⟩
theorem ds_cont : DS X J (.Continue pos) sCont := ⟨PS.imp ps_continue fun Z σ H ⟨pr, env, F, E, R, hw, le⟩ => le.ct env σ F H R (Same.refl _) hw⟩
end
section
variable {X : Cx} {J : GJ} {elt tg iter tg1 iter1 : Expr} {ifs ifs1 : List Expr} {scope : Scope} {own : List (Str × Nat)} {vs1 : List Nat} {pos spos py : Pos} {wi wi1 : WI} {g g1 : WG} {tt tt1 : WT} {te : WE} {i : Nat} {y : Str}
theorem ds_setLc (hc : X.calm = true) (hN : X.N.Nodup) (hy : X.N[i]? = some y) (hyl : X.env.scope.names.lookup y = some .local) (hsw : swapsWith (.ListComp elt [⟨tg, iter, ifs, 0⟩] scope pos) (some (.Name y py)) spos.line X.env = pure true)
    (hi : DI X J tg iter wi) (ok : BlkOk X.N X.env.scope scope own) (hg : InBlk X scope fun Y => DG Y J tg (own.map (·.2)) g) (ht : InBlk X scope fun Y => DTs Y J ifs tt) (he : InBlk X scope fun Y => DE Y J elt te)
    (hs : ∀ x, foldedSetIterable iter X.env x = pure x := by intro _; rfl) : DS X J (.Assign [.Name y py] (.ListComp elt [⟨tg, iter, ifs, 0⟩] scope pos) spos) (sSet i (wVal (wLC (own.map (·.2)) wi g tt te))) :=
  ⟨PS.imp (ps_setLc hc hN hy hyl hsw hi.run ok (fun s H C cl fp => (hg s H C cl fp).run) (fun s H C cl fp => (ht s H C cl fp).x) (fun s H C cl fp => (he s H C cl fp).x) hs) fun Z σ H ⟨pr, env, F, E, R, hw, le⟩ =>
    lc_of R hw (new_frz (q := fun d e1 => E.nx (e1.set i (.val d))) fun d e1 v F1 H1 R1 s1 iv hq => le.nx _ _ F1 H1 (R1.store iv) s1 hq)⟩
theorem ds_setLcO (hc : X.calm = true) (hN : X.N.Nodup) (hy : X.N[i]? = some y) (hyl : X.env.scope.names.lookup y = some .local) (hsw : swapsWith (.ListComp elt [⟨tg, iter, ifs, 0⟩] scope pos) (some (.Name y py)) spos.line X.env = pure true)
    (hi : DI X J tg iter wi) (ok : BlkOk X.N X.env.scope scope own) (hg : InBlk X scope fun Y => DG Y J tg (own.map (·.2)) g) (ht : InBlk X scope fun Y => DTs Y J ifs tt) (he : InBlk X scope fun Y => DE Y J elt te)
    (hs : ∀ x, foldedSetIterable iter X.env x = pure x := by intro _; rfl) : DS X J (.Assign [.Name y py] (.ListComp elt [⟨tg, iter, ifs, 0⟩] scope pos) spos) (sSet i (wNewLC (own.map (·.2)) wi g tt te)) :=
  ⟨PS.imp (ps_setLc hc hN hy hyl hsw hi.run ok (fun s H C cl fp => (hg s H C cl fp).run) (fun s H C cl fp => (ht s H C cl fp).x) (fun s H C cl fp => (he s H C cl fp).x) hs) fun Z σ H ⟨pr, env, F, E, R, hw, le⟩ =>
    lc_of (fin := fun acc e1 => E.nx (e1.set i (.own acc))) R hw (new_own (q := fun s e1 => E.nx (e1.set i s)) fun s e1 v F1 H1 R1 s1 n hq => le.nx _ _ F1 H1 (R1.put n) s1 hq)⟩
theorem ds_setLc2 (hc : X.calm = true) (hN : X.N.Nodup) (hy : X.N[i]? = some y) (hyl : X.env.scope.names.lookup y = some .local) (hsw : swapsWith (.ListComp elt [⟨tg, iter, ifs, 0⟩, ⟨tg1, iter1, ifs1, 0⟩] scope pos) (some (.Name y py)) spos.line X.env = pure true)
    (hi : DI X J tg iter wi) (ok : BlkOk X.N X.env.scope scope own) (hv : ∀ i ∈ vs1, i ∈ own.map (·.2)) (hg : InBlk X scope fun Y => DG Y J tg (own.map (·.2)) g) (ht : InBlk X scope fun Y => DTs Y J ifs tt)
    (hi1 : InBlk X scope fun Y => DI Y J tg1 iter1 wi1) (hg1 : InBlk X scope fun Y => DG Y J tg1 vs1 g1) (ht1 : InBlk X scope fun Y => DTs Y J ifs1 tt1) (he : InBlk X scope fun Y => DE Y J elt te)
    (hs : ∀ x, foldedSetIterable iter X.env x = pure x := by intro _; rfl) (hs1 : ∀ env x, foldedSetIterable iter1 env x = pure x := by intro _ _; rfl) :
    DS X J (.Assign [.Name y py] (.ListComp elt [⟨tg, iter, ifs, 0⟩, ⟨tg1, iter1, ifs1, 0⟩] scope pos) spos) (sSet i (wVal (wLC2 (own.map (·.2)) vs1 wi g tt wi1 g1 tt1 te))) :=
  ⟨PS.imp (ps_setLc2 hc hN hy hyl hsw hi.run ok hv (fun s H C cl fp => (hg s H C cl fp).run) (fun s H C cl fp => (ht s H C cl fp).x) (fun s H C cl fp => (hi1 s H C cl fp).run) (fun s H C cl fp => (hg1 s H C cl fp).run) (fun s H C cl fp => (ht1 s H C cl fp).x) (fun s H C cl fp => (he s H C cl fp).x) hs hs1)
    fun Z σ H ⟨pr, env, F, E, R, hw, le⟩ => lc2_of hv R hw (new_frz (q := fun d e1 => E.nx (e1.set i (.val d))) fun d e1 v F1 H1 R1 s1 iv hq => le.nx _ _ F1 H1 (R1.store iv) s1 hq)⟩
end

/-! ### a, b = x, y -/
@[simp] def sPar (i j : Nat) (wa wb : WV) : WS := fun env E => wa env fun s e1 => wb e1 fun t e2 => E.nx ((e2.set i s).set j t)
section
variable {X : Cx} {J : GJ}
/-- two values made one behind the other, then stored -/
theorem par_of {i j : Nat} {wa wb : WV} {Z : L2.St → Hp → Prop} {σ : L2.St} {H : Hp} {pr : Hp} {env : En} {F : Hp} {nx : En → Prop} (hij : i ≠ j) (R : Rep X.K X.mg J pr env σ F H) (hw : wa env fun s e1 => wb e1 fun t e2 => nx ((e2.set i s).set j t))
    (le : ∀ env' σ' F' H', Rep X.K X.mg J pr env' σ' F' H' → Same F F' → nx env' → Z σ' H') :
    tV X.K X.mg J wa σ H fun x H1 => tV X.K X.mg J wb σ H1 fun y H2 => ∀ H3, (∀ b o, H2 b = some o → H3 b = some o) → (∀ b, J.mt b → H3 b = H2 b) → Z ((σ.set i (some x)).set j (some y)) H3 := by
  refine ⟨pr, env, F, _, R, hw, fun s e1 x F1 H1 R1 s1 n1 hq => ?_⟩
  -- while the second is made, the first is somebody's
  have fin : ∀ (t : Sl) (e2 : En) (y : V) (F2 H2 : Hp), Rep X.K X.mg J pr e2 σ F2 H2 → Same F F2 → NeOk X.K X.mg J pr e2 σ F2 H2 x s → NeOk X.K X.mg J pr (e2.set i s) (σ.set i (some x)) F2 H2 y t → nx ((e2.set i s).set j t) →
      ∀ H3, (∀ b o, H2 b = some o → H3 b = some o) → (∀ b, J.mt b → H3 b = H2 b) → Z ((σ.set i (some x)).set j (some y)) H3 := fun t e2 y F2 H2 R2 s2 nx' ny hq2 H3 up mt => by
    have R3 := (R2.put (i := i) nx').put (i := j) ny
    have st3 : Stp J pr F2 H2 F2 H3 := ⟨⟨fun b o e => up b o (R2.st.sub b o e), fun b o e => ⟨up b o (R2.st.prk b o e).1, (R2.st.prk b o e).2⟩, J.stay _ _ _ _ R2.st.inv (Same.refl _) mt (fun b φ h => up b _ h), R2.st.mtF, R2.st.nt⟩, Same.refl _, fun b o _ _ e => up b o e, fun b o _ e f => f⟩
    exact le _ _ F2 H3 (R3.stp st3) s2 hq2
  by_cases hs : s.isOwn = true
  · obtain ⟨p, o, rfl, hp, m, nto⟩ := n1.ok.obj hs
    refine ⟨_, e1, F1, _, R1.more hp m nto (fun k t e ht => n1.al hs k t e ht), hq, fun t e2 y F2 H2 R2 s2 n2 hq2 => ?_⟩
    obtain ⟨R3, hp2, m2, al2⟩ := R2.less m.q
    have nx' : NeOk X.K X.mg J pr e2 σ F2 H2 (.ref p) s := by
      refine ⟨n1.ok.later s2 (fun p' o' e h => ?_) (fun p' e _ => ?_), fun _ => al2⟩
      · cases e
        rw [hp] at h
        cases h
        exact hp2
      · cases e
        exact m2
    refine fin t e2 y F2 H2 R3 (s1.trans s2) nx' ⟨n2.ok.later (Same.refl _) (fun _ _ _ h => h) (fun p' e mm => ⟨mm.f, ?_, mm.m⟩), fun ht k u e hu z => ?_⟩ hq2
    · have q := mm.q
      have ne : p' ≠ p := fun z => by
        subst z
        rw [upd_same] at q
        cases q
      rwa [upd_ne ne] at q
    · by_cases hk : i = k
      · subst hk
        obtain ⟨hl, e⟩ := List.getElem?_eq_some_iff.mp e
        rw [List.length_set] at hl
        rw [List.getElem?_set_self (by rw [← R2.len]; exact hl)] at z
        have z := Option.some.inj (Option.some.inj z)
        obtain ⟨p', o', e', h', mm, _⟩ := n2.ok.obj ht
        rw [e'] at z
        cases z
        have q := mm.q
        rw [upd_same] at q
        cases q
      · rw [List.getElem?_set_ne hk] at e z
        exact n2.al ht k u e hu z
  · refine ⟨pr, e1, F1, _, R1, hq, fun t e2 y F2 H2 R2 s2 n2 hq2 => ?_⟩
    have nx' : NeOk X.K X.mg J pr e2 σ F2 H2 x s := by
      refine ⟨?_, fun z => absurd z hs⟩
      have h := n1.ok
      cases s with
      | no => trivial
      | val d =>
        obtain ⟨u, e, iu⟩ := h
        exact ⟨u, e, iu.mono s2⟩
      | own _ => exact absurd rfl hs
      | lat _ _ => exact absurd rfl hs
      | dk _ => exact absurd rfl hs
      | dt _ => exact absurd rfl hs
    refine fin t e2 y F2 H2 R2 (s1.trans s2) nx' ⟨n2.ok, fun ht k u e hu z => ?_⟩ hq2
    by_cases hk : i = k
    · subst hk
      obtain ⟨hl, e⟩ := List.getElem?_eq_some_iff.mp e
      simp only [List.getElem_set_self] at e
      subst e
      exact hs hu
    · rw [List.getElem?_set_ne hk] at e z
      exact n2.al ht k u e hu z
theorem ds_par {i j : Nat} {x y : Str} {a b : Expr} {px py pt pos : Pos} {kt k2 pt2} {wa wb : WV} (hc : X.calm = true) (hN : X.N.Nodup) (hi : X.N[i]? = some x) (hj : X.N[j]? = some y) (hij : i ≠ j)
    (hx : X.env.scope.names.lookup x = some .local) (hy : X.env.scope.names.lookup y = some .local) (ha : DV X J a wa) (hb : DV X J b wb)
    (hw : swappedStores [.Tuple [.Name x px, .Name y py] kt pt] (.Tuple [a, b] k2 pt2) X.env = pure (some [x, y]))
    (hs : swapsWithSole [.Tuple [.Name x px, .Name y py] kt pt] (.Tuple [a, b] k2 pt2) pos.line X.env = pure false := by rfl)
    (h1 : starEach (a :: [b]) X.env = (false, eval a X.env) :: starEach [b] X.env := by rfl) (h2 : starEach (b :: []) X.env = (false, eval b X.env) :: starEach [] X.env := by rfl) :
    DS X J (.Assign [.Tuple [.Name x px, .Name y py] kt pt] (.Tuple [a, b] k2 pt2) pos) (sPar i j wa wb) := by
  refine ⟨PS.imp (ps_par hc hN hi hj hij hx hy (pa_cons ha.run (pa_cons hb.run pa_nil h2) h1) hw hs) fun Z σ H ⟨pr, env, F, E, R, hw, le⟩ => ?_⟩
  have h := par_of (X := X) (Z := Z.nx) hij R hw le.nx
  obtain ⟨pr1, en1, F1, q1, R1, w1, k1⟩ := h
  refine ⟨pr1, en1, F1, q1, R1, w1, fun s e1 v F' H' R' s' n hq => ?_⟩
  obtain ⟨pr2, en2, F2, q2, R2, w2, k2⟩ := k1 s e1 v F' H' R' s' n hq
  refine ⟨pr2, en2, F2, q2, R2, w2, fun s e1 u F'' H'' R'' s'' n' hq' => ?_⟩
  exact ⟨v, u, rfl, k2 s e1 u F'' H'' R'' s'' n' hq' H'' (fun _ _ h => h) fun _ _ => rfl⟩
/-- the same where a tuple is made on the way -/
theorem ds_parT {i j : Nat} {x y : Str} {a b : Expr} {px py pt pos : Pos} {kt k2 pt2} {wa wb : WV} (hc : X.calm = true) (hN : X.N.Nodup) (hij : i ≠ j) (gx : PG X (.Name x px) (L2.gName i)) (gy : PG X (.Name y py) (L2.gName j)) (ha : DV X J a wa) (hb : DV X J b wb)
    (hs : swapsWithSole [.Tuple [.Name x px, .Name y py] kt pt] (.Tuple [a, b] k2 pt2) pos.line X.env = pure false := by rfl)
    (hw : swappedStores [.Tuple [.Name x px, .Name y py] kt pt] (.Tuple [a, b] k2 pt2) X.env = pure none := by rfl)
    (h0 : (assignEach [.Tuple [.Name x px, .Name y py] kt pt] X.env).map (·.2) = [assign (.Tuple [.Name x px, .Name y py] kt pt) X.env] := by rfl)
    (h1 : starEach (a :: [b]) X.env = (false, eval a X.env) :: starEach [b] X.env := by rfl) (h2 : starEach (b :: []) X.env = (false, eval b X.env) :: starEach [] X.env := by rfl)
    (hn : (assignEach [.Name x px, .Name y py] X.env).length = 2 := by rfl) (hst : (assignEach [.Name x px, .Name y py] X.env).findIdx? (·.1) = none := by rfl)
    (h3 : (assignEach (.Name x px :: [.Name y py]) X.env).map (·.2) = assign (.Name x px) X.env :: (assignEach [.Name y py] X.env).map (·.2) := by rfl) (h4 : (assignEach (.Name y py :: []) X.env).map (·.2) = assign (.Name y py) X.env :: (assignEach [] X.env).map (·.2) := by rfl) :
    DS X J (.Assign [.Tuple [.Name x px, .Name y py] kt pt] (.Tuple [a, b] k2 pt2) pos) (sPar i j wa wb) := by
  refine ⟨PS.imp (ps_asg (pe_tup (pa_cons ha.run (pa_cons hb.run pa_nil h2) h1)) (pg_tup hc (L2.pgs_cons gx (L2.pgs_cons gy L2.pgs_nil h4) h3) hn hst) hs hw h0) fun Z σ H ⟨pr, env, F, E, R, hw, le⟩ => ?_⟩
  have h := par_of (X := X) (Z := Z.nx) hij R hw le.nx
  obtain ⟨pr1, en1, F1, q1, R1, w1, k1⟩ := h
  refine ⟨pr1, en1, F1, q1, R1, w1, fun s e1 v F' H' R' s' n hq => ?_⟩
  obtain ⟨pr2, en2, F2, q2, R2, w2, k2⟩ := k1 s e1 v F' H' R' s' n hq
  refine ⟨pr2, en2, F2, q2, R2, w2, fun s e1 u F'' H'' R'' s'' n' hq' => ?_⟩
  refine ⟨by rw [sizeLine_eq]; show 2 ≤ 16777216; decide, fun t nt => ?_⟩
  refine ⟨t, [v, u], rfl, SqT.of upd_same, rfl, v, [u], rfl, u, [], rfl, rfl, ?_⟩
  exact k2 s e1 u F'' H'' R'' s'' n' hq' _ (fun b o h => by rw [upd_ne (ne_of_none h nt)]; exact h) fun b mt => upd_ne fun z => J.at_ F'' H'' b R''.st.inv mt (z ▸ nt)
end

/-! ### loops -/
def forGo (g : WG) (body : WS) (E : DEnds) : List D → En → Prop
  | [], env => E.nx env
  | x :: xs, env => g x env fun e2 => body e2 { E with nx := forGo g body E xs, ct := forGo g body E xs, bk := E.nx }
@[simp] def sFor (wi : WI) (g : WG) (body : WS) : WS := fun env E => wi env fun xs e1 => forGo g body E xs e1
def sWhile (c : WT) (body : WS) : WS := fun env E => ∃ P : Nat → En → Prop, (∃ m, P m env) ∧ ∀ m e, P m e → c e fun b e1 => if b = true then body e1 { E with nx := fun e2 => ∃ m', m' < m ∧ P m' e2, ct := fun e2 => ∃ m', m' < m ∧ P m' e2, bk := E.nx } else E.nx e1
section
variable {X : Cx} {J : GJ} {tg iter c : Expr} {body : List Stmt} {wi : WI} {g : WG} {w : WS} {wt : WT} {pos : Pos} {vs : List Nat}
theorem ds_for (hp : PassesOwn (model X.prog X.w) X.A X.env X.xe) (hc : X.calm = true) (hi : DI X J tg iter wi) (hg : DG X J tg vs g) (hb : DSs X J body w) (hs : ∀ x, foldedSetIterable iter X.env x = pure x := by intro _; rfl) : DS X J (.For tg iter body [] pos) (sFor wi g w) := by
  refine ⟨PS.imp (ps_for hp hc hi.run hg.run hb.run hs) fun Z σ H ⟨pr, env, F, E, R, hw, le⟩ => ⟨pr, env, F, _, R, hw, fun It xs e1 F1 H1 R1 s1 itok hgo => ?_⟩⟩
  refine ⟨fun i m σ' H' => ∃ e F', Rep X.K X.mg J pr e σ' F' H' ∧ Same F1 F' ∧ m = xs.length - i ∧ i ≤ xs.length ∧ forGo g w E (xs.drop i) e, ⟨xs.length, e1, F1, R1, Same.refl _, by omega, Nat.zero_le _, hgo⟩, ?_⟩
  rintro i m σ' H' ⟨e, F', R', s', rfl, hi, hg'⟩
  by_cases hlt : i < xs.length
  · refine .inr ⟨(itok pr).go i F' H' s' R'.st.sub hlt, fun σ2 H2 => ∃ m', m' < xs.length - i ∧ ∃ e F', Rep X.K X.mg J pr e σ2 F' H2 ∧ Same F1 F' ∧ m' = xs.length - (i + 1) ∧ i + 1 ≤ xs.length ∧ forGo g w E (xs.drop (i + 1)) e, fun _ _ h => h, fun x H2 hy => ?_⟩
    obtain ⟨F2, d, hd, t, ix⟩ := (itok pr).yld i F' H' x H2 s' R'.st hlt hy
    have hdr : xs.drop i = d :: xs.drop (i + 1) := by
      obtain ⟨hl, e⟩ := List.getElem?_eq_some_iff.mp hd
      rw [List.drop_eq_getElem_cons hl, e]
    rw [hdr] at hg'
    refine ⟨pr, e, F2, d, _, R'.stp t, ix, hg', fun e3 σ3 F3 H3 R3 s3 _ _ hq => ?_⟩
    have sF : Same F1 F3 := (s'.trans t.ff).trans s3
    have le' := le.mono (s1.trans sF)
    exact ⟨pr, e3, F3, _, R3, hq, ⟨fun e4 σ4 F4 H4 R4 s4 hq4 => ⟨xs.length - (i + 1), by omega, e4, F4, R4, sF.trans s4, rfl, by omega, hq4⟩, le'.rt, fun e4 σ4 F4 H4 R4 s4 hq4 => le'.nx e4 σ4 F4 H4 R4 s4 hq4,
      fun e4 σ4 F4 H4 R4 s4 hq4 => ⟨xs.length - (i + 1), by omega, e4, F4, R4, sF.trans s4, rfl, by omega, hq4⟩⟩⟩
  · have e0 : i = xs.length := by omega
    subst e0
    rw [List.drop_length] at hg'
    exact .inl ⟨(itok pr).stop _ F' H' s' R'.st.sub (Nat.le_refl _), le.nx e σ' F' H' R' (s1.trans s') hg'⟩
theorem ds_while (hp : PassesOwn (model X.prog X.w) X.A X.env X.xe) (hc : DT X J c wt) (hb : DSs X J body w) : DS X J (.While c body [] pos) (sWhile wt w) := by
  refine ⟨PS.imp (ps_while hp (xT_of hc) hb.run) fun Z σ H ⟨pr, env, F, E, R, ⟨P, ⟨m0, p0⟩, turn⟩, le⟩ => ?_⟩
  refine ⟨fun m σ' H' => ∃ e F', Rep X.K X.mg J pr e σ' F' H' ∧ Same F F' ∧ P m e, ⟨m0, env, F, R, Same.refl _, p0⟩, ?_⟩
  rintro m σ' H' ⟨e, F', R', s', hP⟩
  refine ⟨pr, e, F', _, R', turn m e hP, fun b e1 F1 H1 R1 s1 hq => ?_⟩
  have sF := s'.trans s1
  cases b with
  | true =>
    refine ⟨fun σ2 H2 => ∃ m', m' < m ∧ ∃ e F', Rep X.K X.mg J pr e σ2 F' H2 ∧ Same F F' ∧ P m' e, fun _ _ h => h, ?_⟩
    have le' := le.mono sF
    exact ⟨pr, e1, F1, _, R1, hq, ⟨fun e4 σ4 F4 H4 R4 s4 ⟨m', hm, hq4⟩ => ⟨m', hm, e4, F4, R4, sF.trans s4, hq4⟩, le'.rt, fun e4 σ4 F4 H4 R4 s4 hq4 => le'.nx e4 σ4 F4 H4 R4 s4 hq4, fun e4 σ4 F4 H4 R4 s4 ⟨m', hm, hq4⟩ => ⟨m', hm, e4, F4, R4, sF.trans s4, hq4⟩⟩⟩
  | false => exact le.nx e1 σ' F1 H1 R1 sF hq
end

/-! ### a def's promise -/
@[simp] def startE (N : List Str) (ds : List D) : En := ds.map Sl.val ++ List.replicate (N.length - ds.length) .no
theorem start_rep {K : PySem.W.Frag} {mg : Str → Option Value} {J : GJ} {pr F H : Hp} {N : List Str} {vs : List V} {ds : List D} (st : St8 J pr F H) (ia : IsA K mg F vs ds) : Rep K mg J pr (startE N ds) (L2.start N vs) F H := by
  refine ⟨st, ?_, fun i s o e1 e2 => ?_, fun i j s t ne e1 e2 hs ht => ?_⟩
  · unfold startE L2.start
    simp [ia.length]
  · unfold startE at e1
    unfold L2.start at e2
    by_cases hi : i < ds.length
    · rw [List.getElem?_append_left (by simpa using hi), List.getElem?_map, List.getElem?_eq_getElem hi] at e1
      cases e1
      obtain ⟨v, hv, iv⟩ := ia.get (List.getElem?_eq_getElem hi)
      rw [List.getElem?_append_left (by simpa [ia.length] using hi), List.getElem?_map, hv] at e2
      cases e2
      exact ⟨v, rfl, iv⟩
    · rw [List.getElem?_append_right (by simpa using Nat.le_of_not_lt hi), List.getElem?_replicate] at e1
      split at e1
      · cases e1
        trivial
      · cases e1
  · exfalso
    unfold startE at e1
    by_cases hi : i < ds.length
    · rw [List.getElem?_append_left (by simpa using hi), List.getElem?_map, List.getElem?_eq_getElem hi] at e1
      cases e1
      cases hs
    · rw [List.getElem?_append_right (by simpa using Nat.le_of_not_lt hi), List.getElem?_replicate] at e1
      split at e1
      · cases e1
        cases hs
      · cases e1
section
variable {g : Bool} {P : Program} {w : World} {K : PySem.W.Frag} {mg : Str → Option Value} {base : Heap}
theorem fn_Dk {k : Nat} {f : Addr} {x qual : Str} {st : Stmt} {N ps : List Str} {S : Spec} {wb : GJ → WS} {oc kV doc pm cd ct : Value} {od an : Option Addr} {osl : Array (Option Value)} (lk : K.lookup f = some ⟨oc, od, .func (PySem.W.fnOf x qual (defArgs st) (defBody st) (defScope st) .none kV doc pm an cd ct), osl⟩) (hcd : PySem.W.codeIn K cd qual = true) (Sc : FnScope N ps (defScope st))
    (body : ∀ (J : GJ) (A : Around) (outer : List Env) (s : Shared) (H : Hp) (E : XK), Rm g k (A.deeper (envOfC qual (defScope st) s.heap.objs.size f cd)) → (∃ ds q, S J ds q) → DSs (cxOf L2.CX0 P w K mg base N qual (defScope st) f cd A outer s H E).nox J (defBody st) (wb J))
    (ver : ∀ (J : GJ) (ds : List D) (q : D → Prop), ds.length = ps.length → S J ds q → wb J (startE N ds) { nx := fun _ => q .non, rt := fun d _ => q d }) : FnG g P w K mg base L2.CX0 (k + 1) f (PySem.W.fnOf x qual (defArgs st) (defBody st) (defScope st) .none kV doc pm an cd ct) ps (spD K mg S ps.length) := by
  refine fnG_lk lk hcd Sc (fun vs H Q E h => h.1) fun A outer s H vs Q E hr ⟨hl, J, pr, F, ds, q, st8, ia, hS, k⟩ => ?_
  have b := body J A outer s H E hr ⟨ds, q, hS⟩
  refine ⟨_, b.run.nox, ?_⟩
  have hv := ver J ds q (by rw [← ia.length]; exact hl) hS
  let pr' : Hp := fun b => open Classical in if F b = none ∧ ¬ J.mt b ∧ ∀ o, H b = some o → NT o then H b else none
  have pr1 : ∀ b o, F b = none → ¬ J.mt b → NT o → H b = some o → pr' b = some o := fun b o h1 h2 h3 h4 => (if_pos ⟨h1, h2, fun o' e => by rw [h4] at e; cases e; exact h3⟩).trans h4
  have pr2 : ∀ b o, pr' b = some o → F b = none ∧ ¬ J.mt b ∧ H b = some o ∧ NT o := fun b o e => by
    have e : (open Classical in if F b = none ∧ ¬ J.mt b ∧ ∀ o, H b = some o → NT o then H b else none) = some o := e
    split at e
    · rename_i h
      exact ⟨h.1, h.2.1, e, h.2.2 o e⟩
    · cases e
  have st' : St8 J pr' F H := ⟨st8.sub, fun b o e => ⟨(pr2 b o e).2.2.1, (pr2 b o e).1⟩, st8.inv, fun b m => ⟨(st8.mtF b m).1, if_neg fun z => z.2.1 m⟩, fun b o e => e.elim (fun e => st8.nt b o (.inl e)) fun e => (pr2 b o e).2.2.2⟩
  have out : ∀ F' H', St8 J pr' F' H' → Same F F' → Stp J pr F H F' H' := fun F' H' s' ff => by
    have keep : ∀ b o, ¬ J.mt b → NT o → H b = some o → H' b = some o := fun b o m t e => by
      cases hF : F b with
      | none => exact (s'.prk b o (pr1 b o hF m t e)).1
      | some o' =>
        have e1 := st8.sub b o' hF
        rw [e] at e1
        cases e1
        exact s'.sub b o (ff b o hF)
    refine ⟨⟨s'.sub, fun b o e => ?_, s'.inv, fun b m => ⟨(s'.mtF b m).1, (st8.mtF b m).2⟩, fun b o e => e.elim (fun e => s'.nt b o (.inl e)) fun e => st8.nt b o (.inr e)⟩, ff, keep, fun b o t e f => ?_⟩
    · obtain ⟨h1, h2⟩ := st8.prk b o e
      have m : ¬ J.mt b := fun m => by
        rw [(st8.mtF b m).2] at e
        cases e
      exact s'.prk b o (pr1 b o h2 m (st8.nt b o (.inr e)) h1)
    · by_cases m : J.mt b
      · exact (s'.mtF b m).1
      · exact (s'.prk b o (pr1 b o f m t e)).2
  refine ⟨pr', startE N ds, F, _, start_rep st' ia, hv, ⟨fun e σ F' H' R s hq => k .non .non F' H' (out F' H' R.st s) .non hq, fun d v e σ F' H' R s i hq => k d v F' H' (out F' H' R.st s) i hq, fun _ _ _ _ _ _ h => h.elim, fun _ _ _ _ _ _ h => h.elim⟩⟩
/-- THE RULE for a def by data: its body's walk, and that its walk by data keeps the promise -/
theorem fn_D {k : Nat} {f : Addr} {x qual : Str} {st : Stmt} {fd : FuncData} {N ps : List Str} {S : Spec} {wb : GJ → WS} (Fu : L2.Fun K x qual st f fd) (Sc : FnScope N ps (defScope st))
    (body : ∀ (J : GJ) (cd : Value) (A : Around) (outer : List Env) (s : Shared) (H : Hp) (E : XK), Rm g k (A.deeper (envOfC qual (defScope st) s.heap.objs.size f cd)) → DSs (cxOf L2.CX0 P w K mg base N qual (defScope st) f cd A outer s H E).nox J (defBody st) (wb J))
    (ver : ∀ (J : GJ) (ds : List D) (q : D → Prop), ds.length = ps.length → S J ds q → wb J (startE N ds) { nx := fun _ => q .non, rt := fun d _ => q d }) : FnG g P w K mg base L2.CX0 (k + 1) f fd ps (spD K mg S ps.length) := by
  obtain ⟨oc, od, kV, doc, pm, an, cd, ct, osl, rfl, lk, hcd⟩ := Fu.ex
  exact fn_Dk lk hcd Sc (fun J A outer s H E hr _ => body J cd A outer s H E hr) ver
theorem cal_D {k : Nat} {f : Addr} {x : Str} {st : Stmt} {fd : FuncData} {N ps : List Str} {S : Spec} {wb : GJ → WS} (Fu : L2.Fun K x x st f fd) (Sc : FnScope N ps (defScope st)) (hm : mg x = some (.ref f)) (hb : Binds K fd ps [])
    (body : ∀ (J : GJ) (cd : Value) (A : Around) (outer : List Env) (s : Shared) (H : Hp) (E : XK), Rm g k (A.deeper (envOfC x (defScope st) s.heap.objs.size f cd)) → DSs (cxOf L2.CX0 P w K mg base N x (defScope st) f cd A outer s H E).nox J (defBody st) (wb J))
    (ver : ∀ (J : GJ) (ds : List D) (q : D → Prop), ds.length = ps.length → S J ds q → wb J (startE N ds) { nx := fun _ => q .non, rt := fun d _ => q d }) : CalG g P w K mg base (k + 1) x S ps.length :=
  ⟨f, fd, ps, fn_D Fu Sc body ver, hm, Fu.kp, hb⟩
end
end DL

/-! DL8: own lists and dicts that change, sets' lengths, name op= value. -/
namespace DL
open PySem PySem.Spec PyProof.Rows L2

/-! ### own lists -/
@[simp] def wApp (i : Nat) (we : WE) : WE := fun env q => (∃ xs, env[i]? = some (.own xs)) ∧ we env fun d e1 => ∃ xs, e1[i]? = some (.own xs) ∧ xs.length < sizeLine ∧ q .non (e1.set i (.own (xs ++ [d])))
@[simp] def wExt (i : Nat) (we : WE) : WE := fun env q => (∃ xs, env[i]? = some (.own xs)) ∧ we env fun d e1 => ∃ xs ys, e1[i]? = some (.own xs) ∧ d = .lst ys ∧ xs.length + ys.length ≤ sizeLine ∧ q .non (e1.set i (.own (xs ++ ys)))
@[simp] def wPopAt (i : Nat) (we : WE) : WE := fun env q => (∃ xs, env[i]? = some (.own xs)) ∧ we env fun d e1 => ∃ xs j k y, e1[i]? = some (.own xs) ∧ d = .int j ∧ -(2 ^ 63) ≤ j ∧ j < 2 ^ 63 ∧ seqIndex? j xs.length = some k ∧ xs[k]? = some y ∧ q y (e1.set i (.own (xs.eraseIdx k)))
@[simp] def wPop (i : Nat) : WE := fun env q => ∃ xs y, env[i]? = some (.own xs) ∧ xs[xs.length - 1]? = some y ∧ q y (env.set i (.own xs.dropLast))
theorem IsA.dropLast {K : PySem.W.Frag} {mg : Str → Option Value} {F : Hp} {vs : List V} {xs : List D} (h : IsA K mg F vs xs) : IsA K mg F vs.dropLast xs.dropLast := by
  rw [List.dropLast_eq_take, List.dropLast_eq_take, h.length]
  exact h.take _
section
variable {X : Cx} {J : GJ} {o e : Expr} {we : WE} {apos cpos : Pos} {i : Nat}
theorem own_at {K : PySem.W.Frag} {mg : Str → Option Value} {pr F H : Hp} {env : En} {σ : L2.St} {xs : List D} (R : Rep K mg J pr env σ F H) (h : env[i]? = some (.own xs)) :
    ∃ p vs, σ[i]? = some (some (V.ref p)) ∧ H p = some (.lst vs) ∧ IsA K mg F vs xs ∧ Mine J pr F p := by
  obtain ⟨o, eo, p, vs, rfl, h1, h2, h3⟩ := R.at h
  exact ⟨p, vs, eo, h1, h2, h3⟩
theorem Rep.lset {K : PySem.W.Frag} {mg : Str → Option Value} {pr F H : Hp} {env : En} {σ : L2.St} {xs ys : List D} {p : Addr} {ws : List V} (R : Rep K mg J pr env σ F H) (h : env[i]? = some (.own xs)) (hp : σ[i]? = some (some (V.ref p))) (ia : IsA K mg F ws ys) : Rep K mg J pr (env.set i (.own ys)) σ F (upd H p (.lst ws)) := by
  obtain ⟨p', vs, e1, h1, h2, m⟩ := own_at R h
  rw [hp] at e1
  cases e1
  exact R.write h rfl hp m ⟨p, ws, rfl, upd_same, ia, m⟩
theorem de_app (ho : PE X o (tVar i)) (h : DE X J e we) (hbase : attributeBase o "append" X.env (eval o X.env) = eval o X.env := by rfl)
    (hfew : ((backTo cpos (starEach (e :: []) X.env)).all (fun x => !x.1) && (backToKw cpos (keywordEach [] X.env)).all (fun x => x.1.isSome) && decide ((e :: []).length + ([] : List Keyword).length + (if ([] : List Keyword).isEmpty then 0 else 1) < 30)) = true := by rfl)
    (hline : (apos.endLine == cpos.line) = true := by rfl) (hs : starEach (e :: []) X.env = (false, eval e X.env) :: starEach [] X.env := by rfl) (hplain : (backTo cpos (starEach [] X.env)).any (·.1) = false := by rfl) :
    DE X J (.Call (.Attribute o "append" apos) [e] [] cpos) (wApp i we) := by
  refine ⟨fun pr => PE.imp (pe_bm PySem.F.plainAttrs_list PySem.F.slot_list_append PySem.F.type_list_append mt_append ho (pa_cons h.x pa_nil hs) hbase hfew hline hs hplain) fun σ H Q ⟨env, F, q, R, ⟨⟨xs, hx⟩, hw⟩, k⟩ => ?_⟩
  obtain ⟨p, vs, e1, h1, h2, m⟩ := own_at R hx
  refine ⟨_, e1, .inl ⟨rfl, vs, SqL.of h1⟩, pr, env, F, _, R, hw, fun d e2 v F2 H2 R2 s2 i2 ⟨ys, hy, hl, hq⟩ => ?_⟩
  obtain ⟨p', ws, e3, h3, h4, m'⟩ := own_at R2 hy
  rw [e1] at e3
  cases e3
  exact ⟨p, ws, v, rfl, rfl, h3, by rw [h4.length]; exact hl, k _ _ _ F2 _ (R2.lset hy e1 (h4.append (.cons i2 .nil))) s2 .non hq⟩
theorem de_ext (ho : PE X o (tVar i)) (h : DE X J e we) (hbase : attributeBase o "extend" X.env (eval o X.env) = eval o X.env := by rfl)
    (hfew : ((backTo cpos (starEach (e :: []) X.env)).all (fun x => !x.1) && (backToKw cpos (keywordEach [] X.env)).all (fun x => x.1.isSome) && decide ((e :: []).length + ([] : List Keyword).length + (if ([] : List Keyword).isEmpty then 0 else 1) < 30)) = true := by rfl)
    (hline : (apos.endLine == cpos.line) = true := by rfl) (hs : starEach (e :: []) X.env = (false, eval e X.env) :: starEach [] X.env := by rfl) (hplain : (backTo cpos (starEach [] X.env)).any (·.1) = false := by rfl) :
    DE X J (.Call (.Attribute o "extend" apos) [e] [] cpos) (wExt i we) := by
  refine ⟨fun pr => PE.imp (pe_bm PySem.F.plainAttrs_list PySem.F.slot_list_extend PySem.F.type_list_extend mt_extend ho (pa_cons h.x pa_nil hs) hbase hfew hline hs hplain) fun σ H Q ⟨env, F, q, R, ⟨⟨xs, hx⟩, hw⟩, k⟩ => ?_⟩
  obtain ⟨p, vs, e1, h1, h2, m⟩ := own_at R hx
  refine ⟨_, e1, .inl ⟨rfl, vs, SqL.of h1⟩, pr, env, F, _, R, hw, fun d e2 v F2 H2 R2 s2 i2 ⟨ys, zs, hy, hd, hl, hq⟩ => ?_⟩
  subst hd
  obtain ⟨b, us, rfl, hb, ib⟩ := i2.lst_inv
  obtain ⟨p', ws, e3, h3, h4, m'⟩ := own_at R2 hy
  rw [e1] at e3
  cases e3
  exact ⟨p, b, ws, us, rfl, rfl, h3, R2.st.sub _ _ hb, by rw [h4.length, ib.length]; exact hl, k _ _ _ F2 _ (R2.lset hy e1 (h4.append ib)) s2 .non hq⟩
theorem de_popAt (ho : PE X o (tVar i)) (h : DE X J e we) (hbase : attributeBase o "pop" X.env (eval o X.env) = eval o X.env := by rfl)
    (hfew : ((backTo cpos (starEach (e :: []) X.env)).all (fun x => !x.1) && (backToKw cpos (keywordEach [] X.env)).all (fun x => x.1.isSome) && decide ((e :: []).length + ([] : List Keyword).length + (if ([] : List Keyword).isEmpty then 0 else 1) < 30)) = true := by rfl)
    (hline : (apos.endLine == cpos.line) = true := by rfl) (hs : starEach (e :: []) X.env = (false, eval e X.env) :: starEach [] X.env := by rfl) (hplain : (backTo cpos (starEach [] X.env)).any (·.1) = false := by rfl) :
    DE X J (.Call (.Attribute o "pop" apos) [e] [] cpos) (wPopAt i we) := by
  refine ⟨fun pr => PE.imp (pe_bm PySem.F.plainAttrs_list PySem.F.slot_list_pop PySem.F.type_list_pop mt_popAt ho (pa_cons h.x pa_nil hs) hbase hfew hline hs hplain) fun σ H Q ⟨env, F, q, R, ⟨⟨xs, hx⟩, hw⟩, k⟩ => ?_⟩
  obtain ⟨p, vs, e1, h1, h2, m⟩ := own_at R hx
  refine ⟨_, e1, .inl ⟨rfl, vs, SqL.of h1⟩, pr, env, F, _, R, hw, fun d e2 v F2 H2 R2 s2 i2 ⟨ys, j, l, y, hy, hd, b1, b2, hk, hg, hq⟩ => ?_⟩
  subst hd
  cases i2.int_inv
  obtain ⟨p', ws, e3, h3, h4, m'⟩ := own_at R2 hy
  rw [e1] at e3
  cases e3
  obtain ⟨z, hz, iz⟩ := h4.get hg
  exact ⟨p, ws, j, l, z, rfl, rfl, h3, b1, b2, by rw [h4.length]; exact hk, hz, k _ _ _ F2 _ (R2.lset hy e1 (h4.eraseIdx l)) s2 iz hq⟩
theorem de_pop (ho : PE X o (tVar i)) (hbase : attributeBase o "pop" X.env (eval o X.env) = eval o X.env := by rfl) (hline : (apos.endLine == cpos.line) = true := by rfl) : DE X J (.Call (.Attribute o "pop" apos) [] [] cpos) (wPop i) := by
  refine ⟨fun pr => PE.imp (pe_bm0 PySem.F.plainAttrs_list PySem.F.slot_list_pop PySem.F.type_list_pop mt_pop ho hbase hline) fun σ H Q ⟨env, F, q, R, ⟨xs, y, hx, hy, hq⟩, k⟩ => ?_⟩
  obtain ⟨p, vs, e1, h1, h2, m⟩ := own_at R hx
  obtain ⟨z, hz, iz⟩ := h2.get hy
  exact ⟨_, e1, .inl ⟨rfl, vs, SqL.of h1⟩, p, vs, z, rfl, rfl, h1, by rw [h2.length]; exact hz, k _ _ _ F _ (R.lset hx e1 h2.dropLast) (Same.refl _) iz hq⟩
end
/-- own[e] = value -/
@[simp] def gIxL (i : Nat) (we : WE) : WG := fun d env q => (∃ xs, env[i]? = some (.own xs)) ∧ we env fun x e1 => ∃ xs j k, e1[i]? = some (.own xs) ∧ x = .int j ∧ ixN xs.length j = some k ∧ q (e1.set i (.own (xs.set k d)))
section
variable {X : Cx} {J : GJ} {o e : Expr} {we : WE} {pos : Pos} {i : Nat}
theorem dg_ixL (ho : PE X o (tVar i)) (h : DE X J e we)
    (ha : ∀ v, assign (.Subscript o e pos) X.env v = (do
      let ov ← holding [v] (eval o X.env)
      let iv ← holding [v, ov] (eval e X.env)
      standAt pos
      holding [v, ov, iv] (setItem ov iv v)
      release [v, ov, iv] []) := by intro _; rfl) : DG X J (.Subscript o e pos) [] (gIxL i we) := by
  refine ⟨PG.imp (pg_sub ho h.x set_list ha) fun v σ H Q ⟨pr, env, F, d, q, R, iv, ⟨⟨xs, hx⟩, hw⟩, k⟩ => ?_⟩
  obtain ⟨p, vs, e1, h1, h2, m⟩ := own_at R hx
  refine ⟨_, e1, pr, env, F, _, R, hw, fun x e2 u F2 H2 R2 s2 i2 ⟨ys, j, l, hy, hd, hk, hq⟩ => ?_⟩
  subst hd
  cases i2.int_inv
  obtain ⟨p', ws, e3, h3, h4, m'⟩ := own_at R2 hy
  rw [e1] at e3
  cases e3
  exact ⟨p, ws, j, l, rfl, rfl, h3, by rw [h4.length]; exact hk, k _ σ F2 _ (R2.lset hy e1 (IsA.set l (iv.mono s2) h4)) s2 (fun _ _ => rfl) rfl hq⟩
end

/-- the same of a list whose address is known -/
@[simp] def gIxAt (i : Nat) (we : WE) : WG := fun d env q => (∃ a xs, env[i]? = some (.lat a xs)) ∧ we env fun x e1 => ∃ a xs j k, e1[i]? = some (.lat a xs) ∧ x = .int j ∧ ixN xs.length j = some k ∧ q (e1.set i (.lat a (xs.set k d)))
section
variable {X : Cx} {J : GJ} {o e : Expr} {we : WE} {pos : Pos} {i : Nat}
theorem lat_at {K : PySem.W.Frag} {mg : Str → Option Value} {pr F H : Hp} {env : En} {σ : L2.St} {xs : List D} {a : Addr} (R : Rep K mg J pr env σ F H) (h : env[i]? = some (.lat a xs)) :
    ∃ vs, σ[i]? = some (some (V.ref a)) ∧ H a = some (.lst vs) ∧ IsA K mg F vs xs ∧ Mine J pr F a := by
  obtain ⟨o, eo, p, vs, rfl, h1, ⟨h2, rfl⟩, h3⟩ := R.at h
  exact ⟨vs, eo, h1, h2, h3⟩
theorem dg_ixAt (ho : PE X o (tVar i)) (h : DE X J e we)
    (ha : ∀ v, assign (.Subscript o e pos) X.env v = (do
      let ov ← holding [v] (eval o X.env)
      let iv ← holding [v, ov] (eval e X.env)
      standAt pos
      holding [v, ov, iv] (setItem ov iv v)
      release [v, ov, iv] []) := by intro _; rfl) : DG X J (.Subscript o e pos) [] (gIxAt i we) := by
  refine ⟨PG.imp (pg_sub ho h.x set_list ha) fun v σ H Q ⟨pr, env, F, d, q, R, iv, ⟨⟨a, xs, hx⟩, hw⟩, k⟩ => ?_⟩
  obtain ⟨vs, e1, h1, h2, m⟩ := lat_at R hx
  refine ⟨_, e1, pr, env, F, _, R, hw, fun x e2 u F2 H2 R2 s2 i2 ⟨b, ys, j, l, hy, hd, hk, hq⟩ => ?_⟩
  subst hd
  cases i2.int_inv
  obtain ⟨ws, e3, h3, h4, m'⟩ := lat_at R2 hy
  rw [e1] at e3
  cases e3
  exact ⟨a, ws, j, l, rfl, rfl, h3, by rw [h4.length]; exact hk, k (e2.set i (.lat a (ys.set l d))) σ F2 _ (R2.write hy rfl e1 m' ⟨a, _, rfl, upd_same, ⟨IsA.set l (iv.mono s2) h4, rfl⟩, m'⟩) s2 (fun _ _ => rfl) rfl hq⟩
end

/-! ### dicts -/
section
variable {κ : Type} [DecidableEq κ]
def dLook (kvs : List (κ × D)) (k : κ) : Option D := (kvs.find? fun kv => decide (kv.1 = k)).map (·.2)
def dPut (kvs : List (κ × D)) (k : κ) (d : D) : List (κ × D) := if (kvs.any fun kv => decide (kv.1 = k)) = true then kvs.map (fun kv => if kv.1 = k then (kv.1, d) else kv) else kvs ++ [(k, d)]
variable {K : PySem.W.Frag} {mg : Str → Option Value} {F : Hp}
theorem IsKV.look {ws : List (κ × V)} {kvs : List (κ × D)} (h : IsKV K mg F ws kvs) (k : κ) : (∀ d, dLook kvs k = some d → ∃ v, valV ws k = some v ∧ Is K mg F v d) ∧ (dLook kvs k = none → valV ws k = none) := by
  induction h with
  | nil => exact ⟨fun d e => by simp [dLook] at e, fun _ => rfl⟩
  | @cons p q ps qs h t ih =>
    obtain ⟨h1, h2⟩ := h
    by_cases e : p.1 = k
    · have e' : q.1 = k := h1 ▸ e
      rw [valV_pos e]
      refine ⟨fun d ed => ⟨_, rfl, ?_⟩, fun ed => ?_⟩
      · simp [dLook, List.find?_cons, e'] at ed
        rw [← ed]
        exact h2
      · simp [dLook, List.find?_cons, e'] at ed
    · have e' : ¬ q.1 = k := h1 ▸ e
      rw [valV_neg e]
      have : dLook (q :: qs) k = dLook qs k := by simp [dLook, List.find?_cons, e']
      rw [this]
      exact ih
theorem IsKV.any {ws : List (κ × V)} {kvs : List (κ × D)} (h : IsKV K mg F ws kvs) (k : κ) : (ws.any fun kv => decide (kv.1 = k)) = kvs.any fun kv => decide (kv.1 = k) := by
  induction h with
  | nil => rfl
  | @cons p q ps qs h t ih =>
    rw [List.any_cons, List.any_cons, ih, h.1]
theorem IsKV.length {ws : List (κ × V)} {kvs : List (κ × D)} (h : IsKV K mg F ws kvs) : ws.length = kvs.length := Paired.length h
theorem IsKV.app {ws us : List (κ × V)} {kvs ls : List (κ × D)} (h : IsKV K mg F ws kvs) (h' : IsKV K mg F us ls) : IsKV K mg F (ws ++ us) (kvs ++ ls) := by
  induction h with
  | nil => exact h'
  | cons h t ih => exact .cons h ih
theorem IsKV.repl {ws : List (κ × V)} {kvs : List (κ × D)} (h : IsKV K mg F ws kvs) (k : κ) {v : V} {d : D} (i : Is K mg F v d) : IsKV K mg F (ws.map fun kv => if kv.1 = k then (kv.1, v) else kv) (kvs.map fun kv => if kv.1 = k then (kv.1, d) else kv) := by
  induction h with
  | nil => exact .nil
  | @cons p q ps qs h t ih =>
    refine .cons ?_ ih
    by_cases e : p.1 = k
    · have e' : q.1 = k := h.1 ▸ e
      show (if p.1 = k then (p.1, v) else p).1 = (if q.1 = k then (q.1, d) else q).1 ∧ Is K mg F (if p.1 = k then (p.1, v) else p).2 (if q.1 = k then (q.1, d) else q).2
      rw [if_pos e, if_pos e']
      exact ⟨h.1, i⟩
    · have e' : ¬ q.1 = k := h.1 ▸ e
      show (if p.1 = k then (p.1, v) else p).1 = (if q.1 = k then (q.1, d) else q).1 ∧ Is K mg F (if p.1 = k then (p.1, v) else p).2 (if q.1 = k then (q.1, d) else q).2
      rw [if_neg e, if_neg e']
      exact h
theorem IsKV.put {ws : List (κ × V)} {kvs : List (κ × D)} (h : IsKV K mg F ws kvs) (k : κ) {v : V} {d : D} (i : Is K mg F v d) : IsKV K mg F (putK ws k v) (dPut kvs k d) := by
  unfold putK dPut
  rw [h.any k]
  by_cases c : (kvs.any fun kv => decide (kv.1 = k)) = true
  · rw [if_pos c, if_pos c]
    exact h.repl k i
  · rw [if_neg c, if_neg c]
    exact h.app (.cons ⟨rfl, i⟩ .nil)
end
@[simp] def keyOf : D → Option Key
  | .int i => some (.inl i)
  | .str x => some (.inr x)
  | _ => none
@[simp] def keysOf : List D → Option (List Key)
  | [] => some []
  | d :: ds => match keyOf d, keysOf ds with
    | some k, some ks => some (k :: ks)
    | _, _ => none
theorem key_val {K : PySem.W.Frag} {mg : Str → Option Value} {F : Hp} {v : V} {d : D} {k : Key} (h : Is K mg F v d) (e : keyOf d = some k) : v = kV k := by
  cases d <;> simp only [keyOf] at e <;> first | (cases e; done) | skip
  · cases e
    exact h.int_inv
  · cases e
    exact h.str_inv
theorem keys_val {K : PySem.W.Frag} {mg : Str → Option Value} {F : Hp} : ∀ {vs : List V} {ds : List D} {ks : List Key}, IsA K mg F vs ds → keysOf ds = some ks → vs = ks.map kV
  | _, _, _, .nil, e => by
    cases e
    rfl
  | _, _, _, .cons h t, e => by
    unfold keysOf at e
    split at e
    · rename_i k ks e1 e2
      cases e
      rw [key_val h e1, keys_val t e2]
      rfl
    · cases e
/-- a key that is a tuple, written out -/
abbrev WK := En → (List Key → En → Prop) → Prop
def tKy (K : PySem.W.Frag) (mg : Str → Option Value) (J : GJ) (w : WK) : TE := fun σ H Q => ∃ (pr : Hp) (env : En) (F : Hp) (q : List Key → En → Prop), Rep K mg J pr env σ F H ∧ w env q ∧
  ∀ ks env' b F' H', Rep K mg J pr env' σ F' H' → Same F F' → F' b = some (.tup (ks.map kV)) → q ks env' → Q (.ref b) H'
structure DK (X : Cx) (J : GJ) (e : Expr) (w : WK) : Prop where
  run : PE X e (tKy X.K X.mg J w)
@[simp] def wKeys (w : WA) : WK := fun env q => w env fun as e1 => ∃ ds ks, reals as = some ds ∧ keysOf ds = some ks ∧ ds.length ≤ 1000 ∧ q ks e1
section
variable {X : Cx} {J : GJ} {es : List Expr} {w : WA} {pos : Pos}
theorem dk_tup {k} (h : DA X J es w) : DK X J (.Tuple es k pos) (wKeys w) := by
  refine ⟨⟨fun pins s σ H Q I ⟨pr, env, F, q, R, hw, k⟩ => (pe_tup (h.run pr)).run pins s σ H Q I ⟨env, F, _, R, hw, fun as e1 vs F1 H1 R1 s1 i1 ⟨ds, ks, h1, h2, hl, hq⟩ => ?_⟩⟩⟩
  have ia := i1.real h1
  refine ⟨by rw [ia.length, sizeLine_eq]; omega, fun p n => ?_⟩
  obtain ⟨R2, s2⟩ := R1.laid (o := .tup vs) n
  exact k ks e1 p _ _ R2 (s1.trans s2) (by rw [upd_same, keys_val ia h2]) hq
end
/-- told[key] = value; .. with a tuple for a key -/
@[simp] def gDk (i : Nat) (we : WE) : WG := fun d env q => (∃ kvs, env[i]? = some (.dk kvs)) ∧ we env fun x e1 => ∃ kvs k, e1[i]? = some (.dk kvs) ∧ keyOf x = some k ∧ kvs.length < sizeLine ∧ q (e1.set i (.dk (dPut kvs k d)))
@[simp] def gDt (i : Nat) (wk : WK) : WG := fun d env q => (∃ kvs, env[i]? = some (.dt kvs)) ∧ wk env fun ks e1 => ∃ kvs, e1[i]? = some (.dt kvs) ∧ kvs.length < sizeLine ∧ q (e1.set i (.dt (dPut kvs ks d)))
@[simp] def wGet1k (i : Nat) (we : WE) : WE := fun env q => (∃ kvs, env[i]? = some (.dk kvs)) ∧ we env fun x e1 => ∃ kvs k, e1[i]? = some (.dk kvs) ∧ keyOf x = some k ∧ q ((dLook kvs k).getD .non) e1
@[simp] def wGet1t (i : Nat) (wk : WK) : WE := fun env q => (∃ kvs, env[i]? = some (.dt kvs)) ∧ wk env fun ks e1 => ∃ kvs, e1[i]? = some (.dt kvs) ∧ q ((dLook kvs ks).getD .non) e1
@[simp] def wGet2k (i : Nat) (we wd : WE) : WE := fun env q => (∃ kvs, env[i]? = some (.dk kvs)) ∧ we env fun x e1 => wd e1 fun y e2 => ∃ kvs k, e2[i]? = some (.dk kvs) ∧ keyOf x = some k ∧ q ((dLook kvs k).getD y) e2
@[simp] def wGet2t (i : Nat) (wk : WK) (wd : WE) : WE := fun env q => (∃ kvs, env[i]? = some (.dt kvs)) ∧ wk env fun ks e1 => wd e1 fun y e2 => ∃ kvs, e2[i]? = some (.dt kvs) ∧ q ((dLook kvs ks).getD y) e2
@[simp] def wSetd (i : Nat) (we wd : WE) : WE := fun env q => (∃ kvs, env[i]? = some (.dk kvs)) ∧ we env fun x e1 => wd e1 fun y e2 => ∃ kvs k, e2[i]? = some (.dk kvs) ∧ keyOf x = some k ∧ kvs.length < sizeLine ∧
  match dLook kvs k with
  | some d => q d e2
  | none => q y (e2.set i (.dk (dPut kvs k y)))
section
variable {X : Cx} {J : GJ} {o e f : Expr} {we wd : WE} {wk : WK} {pos apos cpos : Pos} {i : Nat}
theorem dk_at {K : PySem.W.Frag} {mg : Str → Option Value} {pr F H : Hp} {env : En} {σ : L2.St} {xs : List (Key × D)} (R : Rep K mg J pr env σ F H) (h : env[i]? = some (.dk xs)) :
    ∃ p vs, σ[i]? = some (some (V.ref p)) ∧ H p = some (.dK vs) ∧ IsKV K mg F vs xs ∧ Mine J pr F p := by
  obtain ⟨o, eo, p, vs, rfl, h1, h2, h3⟩ := R.at h
  exact ⟨p, vs, eo, h1, h2, h3⟩
theorem dt_at {K : PySem.W.Frag} {mg : Str → Option Value} {pr F H : Hp} {env : En} {σ : L2.St} {xs : List (List Key × D)} (R : Rep K mg J pr env σ F H) (h : env[i]? = some (.dt xs)) :
    ∃ p vs, σ[i]? = some (some (V.ref p)) ∧ H p = some (.dT vs) ∧ IsKV K mg F vs xs ∧ Mine J pr F p := by
  obtain ⟨o, eo, p, vs, rfl, h1, h2, h3⟩ := R.at h
  exact ⟨p, vs, eo, h1, h2, h3⟩
theorem set_dict (hu : X.A.units + 1 < cLine) : PSet X (fun o i v H Q => ∃ a H', o = .ref a ∧ DPut H a i v H' ∧ Q H') := by
  intro pins s σ H o i v ov iv u Q I r1 r2 r3 ⟨a, H', e, g, q⟩
  subst e
  obtain rfl : ov = Value.ref a := r1
  exact d_setItem hu I g r2 r3 fun s' I' => ⟨H', I', q⟩
theorem dg_dk (hu : X.A.units + 1 < cLine) (ho : PE X o (tVar i)) (h : DE X J e we)
    (ha : ∀ v, assign (.Subscript o e pos) X.env v = (do
      let ov ← holding [v] (eval o X.env)
      let iv ← holding [v, ov] (eval e X.env)
      standAt pos
      holding [v, ov, iv] (setItem ov iv v)
      release [v, ov, iv] []) := by intro _; rfl) : DG X J (.Subscript o e pos) [] (gDk i we) := by
  refine ⟨PG.imp (pg_sub ho h.x (set_dict hu) ha) fun v σ H Q ⟨pr, env, F, d, q, R, iv, ⟨⟨xs, hx⟩, hw⟩, k⟩ => ?_⟩
  obtain ⟨p, vs, e1, h1, h2, m⟩ := dk_at R hx
  refine ⟨_, e1, pr, env, F, _, R, hw, fun x e2 u F2 H2 R2 s2 i2 ⟨ys, l, hy, hd, hl, hq⟩ => ?_⟩
  obtain ⟨p', ws, e3, h3, h4, m'⟩ := dk_at R2 hy
  rw [e1] at e3
  cases e3
  have hk := key_val i2 hd
  subst hk
  refine ⟨p, _, rfl, DPut.k h3 (by rw [h4.length]; exact hl), k (e2.set i (.dk (dPut ys l d))) σ F2 _ (R2.write hy rfl e1 m' ⟨p, _, rfl, upd_same, h4.put l (iv.mono s2), m'⟩) s2 (fun _ _ => rfl) rfl hq⟩
theorem dg_dt (hu : X.A.units + 1 < cLine) (ho : PE X o (tVar i)) (h : DK X J e wk)
    (ha : ∀ v, assign (.Subscript o e pos) X.env v = (do
      let ov ← holding [v] (eval o X.env)
      let iv ← holding [v, ov] (eval e X.env)
      standAt pos
      holding [v, ov, iv] (setItem ov iv v)
      release [v, ov, iv] []) := by intro _; rfl) : DG X J (.Subscript o e pos) [] (gDt i wk) := by
  refine ⟨PG.imp (pg_sub ho h.run (set_dict hu) ha) fun v σ H Q ⟨pr, env, F, d, q, R, iv, ⟨⟨xs, hx⟩, hw⟩, k⟩ => ?_⟩
  obtain ⟨p, vs, e1, h1, h2, m⟩ := dt_at R hx
  refine ⟨_, e1, pr, env, F, _, R, hw, fun l e2 b F2 H2 R2 s2 i2 ⟨ys, hy, hl, hq⟩ => ?_⟩
  obtain ⟨p', ws, e3, h3, h4, m'⟩ := dt_at R2 hy
  rw [e1] at e3
  cases e3
  refine ⟨p, _, rfl, DPut.t h3 (R2.st.sub _ _ i2) (by rw [h4.length]; exact hl), k (e2.set i (.dt (dPut ys l d))) σ F2 _ (R2.write hy rfl e1 m' ⟨p, _, rfl, upd_same, h4.put l (iv.mono s2), m'⟩) s2 (fun _ _ => rfl) rfl hq⟩
theorem look_getD {κ : Type} [DecidableEq κ] {K : PySem.W.Frag} {mg : Str → Option Value} {F : Hp} {ws : List (κ × V)} {kvs : List (κ × D)} (h : IsKV K mg F ws kvs) (l : κ) {v : V} {d : D} (i : Is K mg F v d) : Is K mg F ((valV ws l).getD v) ((dLook kvs l).getD d) := by
  obtain ⟨h1, h2⟩ := h.look l
  cases e : dLook kvs l with
  | none =>
    rw [h2 e]
    exact i
  | some d' =>
    obtain ⟨v', ev, iv⟩ := h1 d' e
    rw [ev]
    exact iv
theorem de_get1k (hu : X.A.units + 1 < cLine) (ho : PE X o (tVar i)) (h : DE X J e we) (m : M1 X o "get" apos e cpos) : DE X J (.Call (.Attribute o "get" apos) [e] [] cpos) (wGet1k i we) := by
  refine ⟨fun pr => PE.imp (pe_dget1 hu ho h.x m) fun σ H Q ⟨env, F, q, R, ⟨⟨xs, hx⟩, hw⟩, k⟩ => ?_⟩
  obtain ⟨p, vs, e1, h1, h2, mm⟩ := dk_at R hx
  refine ⟨_, e1, p, rfl, .inl ⟨_, .inl h1⟩, pr, env, F, _, R, hw, fun x e2 u F2 H2 R2 s2 i2 ⟨ys, l, hy, hd, hq⟩ => ?_⟩
  obtain ⟨p', ws, e3, h3, h4, m'⟩ := dk_at R2 hy
  rw [e1] at e3
  cases e3
  have hk := key_val i2 hd
  subst hk
  exact ⟨_, DGet.k h3, k _ e2 _ F2 H2 R2 s2 (look_getD h4 l .non) hq⟩
theorem de_get1t (hu : X.A.units + 1 < cLine) (ho : PE X o (tVar i)) (h : DK X J e wk) (m : M1 X o "get" apos e cpos) : DE X J (.Call (.Attribute o "get" apos) [e] [] cpos) (wGet1t i wk) := by
  refine ⟨fun pr => PE.imp (pe_dget1 hu ho h.run m) fun σ H Q ⟨env, F, q, R, ⟨⟨xs, hx⟩, hw⟩, k⟩ => ?_⟩
  obtain ⟨p, vs, e1, h1, h2, mm⟩ := dt_at R hx
  refine ⟨_, e1, p, rfl, .inr ⟨_, .inl h1⟩, pr, env, F, _, R, hw, fun l e2 b F2 H2 R2 s2 i2 ⟨ys, hy, hq⟩ => ?_⟩
  obtain ⟨p', ws, e3, h3, h4, m'⟩ := dt_at R2 hy
  rw [e1] at e3
  cases e3
  exact ⟨_, DGet.t h3 (R2.st.sub _ _ i2), k _ e2 _ F2 H2 R2 s2 (look_getD h4 l .non) hq⟩
theorem de_get2k (hu : X.A.units + 1 < cLine) (ho : PE X o (tVar i)) (h : DE X J e we) (h' : DE X J f wd) (m : M2 X o "get" apos e f cpos) : DE X J (.Call (.Attribute o "get" apos) [e, f] [] cpos) (wGet2k i we wd) := by
  refine ⟨fun pr => PE.imp (pe_dget2 hu ho h.x h'.x m) fun σ H Q ⟨env, F, q, R, ⟨⟨xs, hx⟩, hw⟩, k⟩ => ?_⟩
  obtain ⟨p, vs, e1, h1, h2, mm⟩ := dk_at R hx
  refine ⟨_, e1, p, rfl, .inl ⟨_, .inl h1⟩, pr, env, F, _, R, hw, fun x e2 u F2 H2 R2 s2 i2 hw2 => ⟨pr, e2, F2, _, R2, hw2, fun y e3 z F3 H3 R3 s3 i3 ⟨ys, l, hy, hd, hq⟩ => ?_⟩⟩
  obtain ⟨p', ws, e4, h3, h4, m'⟩ := dk_at R3 hy
  rw [e1] at e4
  cases e4
  have hk := key_val i2 hd
  subst hk
  exact ⟨_, DGet.k h3, k _ e3 _ F3 H3 R3 (s2.trans s3) (look_getD h4 l i3) hq⟩
theorem de_get2t (hu : X.A.units + 1 < cLine) (ho : PE X o (tVar i)) (h : DK X J e wk) (h' : DE X J f wd) (m : M2 X o "get" apos e f cpos) : DE X J (.Call (.Attribute o "get" apos) [e, f] [] cpos) (wGet2t i wk wd) := by
  refine ⟨fun pr => PE.imp (pe_dget2 hu ho h.run h'.x m) fun σ H Q ⟨env, F, q, R, ⟨⟨xs, hx⟩, hw⟩, k⟩ => ?_⟩
  obtain ⟨p, vs, e1, h1, h2, mm⟩ := dt_at R hx
  refine ⟨_, e1, p, rfl, .inr ⟨_, .inl h1⟩, pr, env, F, _, R, hw, fun l e2 b F2 H2 R2 s2 i2 hw2 => ⟨pr, e2, F2, _, R2, hw2, fun y e3 z F3 H3 R3 s3 i3 ⟨ys, hy, hq⟩ => ?_⟩⟩
  obtain ⟨p', ws, e4, h3, h4, m'⟩ := dt_at R3 hy
  rw [e1] at e4
  cases e4
  exact ⟨_, DGet.t h3 (R3.st.sub _ _ (s3 _ _ i2)), k _ e3 _ F3 H3 R3 (s2.trans s3) (look_getD h4 l i3) hq⟩
end
end DL

/-! DL9: list(range(..)), len(set(..)), any target stored, setdefault, name op= value. -/
namespace DL
open PySem PySem.Spec PyProof.Rows L2

theorem isA_rg {K : PySem.W.Frag} {mg : Str → Option Value} {F : Hp} (n : Int) : IsA K mg F (rgV 0 n) (rgD 0 1 n.toNat) := by
  have : rgV 0 n = ((List.range n.toNat).map fun i => (0 + (i : Nat) * 1 : Int)).map V.int := by
    unfold rgV
    rw [List.map_map, Int.sub_zero]
    exact List.map_congr_left fun i _ => by
      show V.int (0 + (i : Nat)) = V.int (0 + (i : Nat) * 1)
      rw [Int.mul_one]
  rw [this]
  have e : rgD 0 1 n.toNat = ((List.range n.toNat).map fun i => (0 + (i : Nat) * 1 : Int)).map D.int := by
    unfold rgD
    rw [List.map_map]
    rfl
  rw [e]
  exact isA_ints
@[simp] def wLRg (w : WE) : WE := fun env q => w env fun d e1 => ∃ n : Int, d = .int n ∧ (-1000 ≤ n ∧ n ≤ 1000) ∧ q (.lst (rgD 0 1 n.toNat)) e1
@[simp] def wLenSet (w : WE) : WE := fun env q => w env fun d e1 => ∃ ns : List Int, d = .tup (ns.map D.int) ∧ ns.length ≤ 1000 ∧ ∀ out : List Int, out.Nodup → (∀ k, k ∈ out ↔ k ∈ ns) → q (.int (out.length : Nat)) e1
section
variable {X : Cx} {J : GJ} {e : Expr} {we : WE} {p p2 pos q : Pos}
theorem de_lrg (hc : X.calm = true) (hg : Gl X "list") (hm : X.mg "list" = none) (hg2 : Gl X "range") (hm2 : X.mg "range" = none) (h : DE X J e we)
    (n1 : starEach [.Call (.Name "range" p2) [e] [] q] X.env = (false, eval (.Call (.Name "range" p2) [e] [] q) X.env) :: starEach [] X.env := by rfl)
    (n2 : starEach [e] X.env = (false, eval e X.env) :: starEach [] X.env := by rfl) : DE X J (.Call (.Name "list" p) [.Call (.Name "range" p2) [e] [] q] [] pos) (wLRg we) := by
  refine ⟨fun pr => PE.imp (pe_listRg hc hg hm (prg_1 hg2 hm2 (h.run pr) n2) n1) fun σ H Q ⟨env, F, q, R, hw, k⟩ => ⟨env, F, _, R, hw, fun d e1 v F1 H1 R1 s1 i1 ⟨n, ed, hb, hq⟩ => ?_⟩⟩
  subst ed
  refine ⟨n, i1.int_inv, ⟨by omega, by omega, by omega, by omega, by omega⟩, fun b nb => ?_⟩
  obtain ⟨R2, s2⟩ := R1.laid (o := .lst (rgV 0 n)) nb
  exact k _ e1 _ _ _ R2 (s1.trans s2) (.lst upd_same (isA_rg n)) hq
theorem de_lenSet (hg : Gl X "len") (hm : X.mg "len" = none) (hg2 : Gl X "set") (hm2 : X.mg "set" = none) (h : DE X J e we) (hc : X.calm = true := by rfl)
    (na : starEach [e] X.env = (false, eval e X.env) :: starEach [] X.env := by rfl) : DE X J (.Call (.Name "len" p) [.Call (.Name "set" p2) [e] [] q] [] pos) (wLenSet we) := by
  refine ⟨fun pr => ⟨fun pins s σ H Q I ⟨env, F, r, R, hw, k⟩ => ?_⟩⟩
  refine Call_ (ld_blt I hg hm boot_len ?_)
  refine PyProof.Rows.callWith_builtin1 (PyProof.Rows.args_cons ?_ rfl) rfl rfl
  refine Call_ (ld_blt I hg2 hm2 boot_set ?_)
  refine PyProof.Rows.callWith_type1 (PyProof.Rows.args_cons (thn ((h.run pr).run pins s σ H _ I ⟨env, F, fun d e1 => ∃ ns : List Int, d = .tup (ns.map D.int) ∧ ns.length ≤ 1000 ∧ ∀ out : List Int, out.Nodup → (∀ k, k ∈ out ↔ k ∈ ns) → r (.int (out.length : Nat)) e1, R, hw, fun d e1 v F1 H1 R1 s1 i1 hq => (⟨d, e1, F1, R1, s1, i1, hq⟩ : ∃ d e1 F1, Rep X.K X.mg J pr e1 σ F1 H1 ∧ Same F F1 ∧ Is X.K X.mg F1 v d ∧ ∃ ns : List Int, d = .tup (ns.map D.int) ∧ ns.length ≤ 1000 ∧ ∀ out : List Int, out.Nodup → (∀ k, k ∈ out ↔ k ∈ ns) → r (.int (out.length : Nat)) e1)⟩) fun v s1 ⟨x, H1, I1, r1, q1⟩ => PyProof.Rows.args_nil ?_) na) na rfl
  obtain ⟨d, e1, F1, R1, sF, i1, ns, rfl, hl, q1⟩ := q1
  obtain ⟨l, xs, rfl, hq, ia⟩ := i1.tup_inv
  have := ia.ints
  subst this
  cases r1
  obtain ⟨its, rr, pl, hz⟩ := I1.tuple (same_seqT R1.st.sub hq)
  have hi : IntsAre its.toArray.toList ns := ints_of_vals rr
  refine call_set_tupI ns (I1.ok.hd hc) pl hi (by unfold scanBound; omega) fun h' tk c SR hcn hk => ?_
  refine PyProof.Rows.args_nil ?_
  obtain ⟨o, es, ep, t, ho, hex, hdt, g, nd, hm2, hb, hf, hn, hr, hl2⟩ := SR
  have I2 : Inv X pins σ H1 { s1 with heap := h', toks := tk } := I1.kept hk
  exact call_len_set ho hex hdt hf (by rw [hn] <;> omega) ⟨.int _, H1, I2.tok _, ⟨_, rfl⟩, by
    have z := q1 (es.toList.map L2.keyOf) nd fun k => by rw [← hm2 k, decide_eq_true_eq]
    rw [List.length_map, Array.length_toList] at z
    exact k _ e1 _ F1 H1 R1 sF (.int _) z⟩
end
@[simp] def wSetAt (w : WE) (g : WG) : WS := fun env E => w env fun d e1 => g d e1 E.nx
section
variable {X : Cx} {J : GJ} {tg e : Expr} {we wd : WE} {g : WG} {vs : List Nat} {pos : Pos}
theorem ds_asg (h : DE X J e we) (hg : DG X J tg vs g) (hs : swapsWithSole [tg] e pos.line X.env = pure false := by rfl) (hw : swappedStores [tg] e X.env = pure none := by rfl)
    (h1 : (assignEach [tg] X.env).map (·.2) = [assign tg X.env] := by rfl) : DS X J (.Assign [tg] e pos) (wSetAt we g) :=
  ⟨PS.imp (ps_asg h.x hg.run hs hw h1) fun Z σ H ⟨pr, env, F, E, R, hw, le⟩ => ⟨pr, env, F, _, R, hw, fun d e1 v F1 H1 R1 s1 i1 hq => ⟨pr, e1, F1, d, _, R1, i1, hq, fun e2 σ2 F2 H2 R2 s2 _ _ hq2 => le.nx e2 σ2 F2 H2 R2 (s1.trans s2) hq2⟩⟩⟩
theorem de_setd {o f : Expr} {apos cpos : Pos} {i : Nat} (ho : PE X o (tVar i)) (h : DE X J e we) (h' : DE X J f wd) (m : M2 X o "setdefault" apos e f cpos) : DE X J (.Call (.Attribute o "setdefault" apos) [e, f] [] cpos) (wSetd i we wd) := by
  refine ⟨fun pr => PE.imp (pe_dsetd ho h.x h'.x m) fun σ H Q ⟨env, F, q, R, ⟨⟨xs, hx⟩, hw⟩, k⟩ => ?_⟩
  obtain ⟨p, vs, e1, h1, h2, mm⟩ := dk_at R hx
  refine ⟨_, e1, p, rfl, .inl ⟨_, .inl h1⟩, pr, env, F, _, R, hw, fun x e2 u F2 H2 R2 s2 i2 hw2 => ⟨pr, e2, F2, _, R2, hw2, fun y e3 z F3 H3 R3 s3 i3 ⟨ys, l, hy, hd, hl, hq⟩ => ?_⟩⟩
  obtain ⟨p', ws, e4, h3, h4, m'⟩ := dk_at R3 hy
  rw [e1] at e4
  cases e4
  have hk := key_val i2 hd
  obtain ⟨l1, l2⟩ := h4.look l
  cases ed : dLook ys l with
  | some d =>
    rw [ed] at hq
    obtain ⟨v, ev, iv⟩ := l1 d ed
    refine ⟨ws, l, h3, hk, by rw [h4.length]; exact hl, fun v' hv' => ?_, fun hn => ?_⟩
    · rw [ev] at hv'
      cases hv'
      exact k _ e3 _ F3 H3 R3 (s2.trans s3) iv hq
    · rw [ev] at hn
      cases hn
  | none =>
    rw [ed] at hq
    have ev := l2 ed
    refine ⟨ws, l, h3, hk, by rw [h4.length]; exact hl, fun v' hv' => ?_, fun hn => ?_⟩
    · rw [ev] at hv'
      cases hv'
    · exact k _ (e3.set i (.dk (dPut ys l y))) _ F3 _ (R3.write hy rfl e1 m' ⟨p, _, rfl, upd_same, h4.put l i3, m'⟩) (s2.trans s3) i3 hq
end
end DL

/-! Spec53: what the defs compute, by data. -/
namespace DL
open PySem PySem.Spec PyProof.Rows L2

def topS (i : Nat) : Stmt := PySem.Challenge.pw_playershouse_k53_whole_kings_and_champio.main.body.getD i (.Pass ⟨0, 0, 0, 0⟩)

/-! ### the hand -/
/-- the hand at a; its cells never change -/
def HandD (ns : List Int) (i d s k : Int) : List D := [.lst (ns.map D.int), .int i, .int d, .int s, .int k]
structure HandOk (ns : List Int) (i d s k : Int) : Prop where
  len : ns.length ≤ 63
  cell : ∀ n ∈ ns, 0 ≤ n
  i0 : 0 ≤ i
  d0 : 0 ≤ d
structure HandAt (a : Addr) (F H : Hp) : Prop where
  ex : ∃ (c : Addr) (ns : List Int) (i d s k : Int), F c = some (.lst (ns.map V.int)) ∧ H a = some (.lst [.ref c, .int i, .int d, .int s, .int k]) ∧ HandOk ns i d s k

/-! ### plain functions -/
/-- who beats whom among n, as a tuple of tuples -/
def bD (n : Nat) (bt : Nat → Nat → Bool) : D := .tup ((List.range n).map fun i => .tup ((List.range n).map fun j => .bl (bt i j)))
structure Beats (n : Nat) (bt : Nat → Nat → Bool) : Prop where
  lo : 1 ≤ n
  hi : n ≤ 8
  self : ∀ i, i < n → bt i i = false
  anti : ∀ i j, i < n → j < n → i ≠ j → bt i j = !bt j i
def kingB (n : Nat) (bt : Nat → Nat → Bool) (i : Nat) : Bool := (List.range n).all fun o => o == i || bt i o || (List.range n).any fun j => bt i j && bt j o
def kingsL (n : Nat) (bt : Nat → Nat → Bool) : List Nat := (List.range n).filter (kingB n bt)
def roundL (bt : Nat → Nat → Bool) : List Nat → List Nat
  | x :: y :: r => (if bt x y then x else y) :: roundL bt r
  | l => l
theorem roundL_length (bt : Nat → Nat → Bool) : ∀ l : List Nat, (roundL bt l).length = (l.length + 1) / 2
  | [] => rfl
  | [_] => by simp [roundL]
  | _ :: _ :: r => by
    show (roundL bt r).length + 1 = (r.length + 1 + 1 + 1) / 2
    rw [roundL_length bt r]
    omega
def champ (bt : Nat → Nat → Bool) : Nat → List Nat → Nat
  | 0, l => l.headD 0
  | f + 1, l => if l.length ≤ 1 then l.headD 0 else champ bt f (roundL bt l)
def natD (l : List Nat) : List D := l.map fun i => .int (i : Nat)
def ordN (n : Nat) : Nat → List (List Nat)
  | 0 => [[]]
  | k + 1 => (ordN n k).flatMap fun o => ((List.range n).filter fun i => !o.contains i).map fun i => o ++ [i]
def Perm8 (n : Nat) (l : List Nat) : Prop := l.length = n ∧ (∀ x ∈ l, x < n) ∧ l.Nodup
def champB (n : Nat) (bt : Nat → Nat → Bool) (l : List Nat) : Nat := champ bt n l

/-! ### promises -/
def S_is_integer : Spec := fun _ ds q => ∃ i, ds = [.int i] ∧ q (.bl true)
def S_is_within : Spec := fun _ ds q => ∃ i lo hi, ds = [.int i, .int lo, .int hi] ∧ q (.bl (decide (lo ≤ i) && decide (i ≤ hi)))
def S_is_tuple : Spec := fun _ ds q => ∃ xs n, ds = [.tup xs, .int n] ∧ q (.bl (decide ((xs.length : Int) = n)))
def S_is_sized : Spec := fun _ ds q => ∃ xs lo hi, ds = [.tup xs, .int lo, .int hi] ∧ q (.bl (decide (lo ≤ (xs.length : Int)) && decide ((xs.length : Int) ≤ hi)))
def S_is_order : Spec := fun _ ds q => ∃ (n : Nat) (l : List Nat), ds = [.tup (natD l), .int n] ∧ Perm8 n l ∧ n ≤ 8 ∧ q (.bl true)
def S_orders_of : Spec := fun _ ds q => ∃ n : Nat, ds = [.lst (natD (List.range n))] ∧ n ≤ 6 ∧ q (.lst ((ordN n n).map fun o => .tup (natD o)))
def S_check_team : Spec := fun _ ds q => ∃ n t : Int, ds = [.int n, .int t] ∧ 0 ≤ t ∧ t < n ∧ q .non
def S_are_beats : Spec := fun _ ds q => ∃ n bt, ds = [bD n bt] ∧ Beats n bt ∧ q (.bl true)
def S_check_beats : Spec := fun _ ds q => ∃ n bt, ds = [bD n bt] ∧ Beats n bt ∧ q .non
def S_kings : Spec := fun _ ds q => ∃ n bt, ds = [bD n bt] ∧ Beats n bt ∧ q (.tup (natD (kingsL n bt)))
def S_raw_champion : Spec := fun _ ds q => ∃ n bt l, ds = [bD n bt, .tup (natD l)] ∧ Beats n bt ∧ Perm8 n l ∧ q (.int (champB n bt l : Nat))
def S_champion : Spec := S_raw_champion
def S_rigged : Spec := fun _ ds q => ∃ (n : Nat) (bt : Nat → Nat → Bool) (t : Nat), ds = [bD n bt, .int t] ∧ Beats n bt ∧ n ≤ 6 ∧ t < n ∧ q (match (ordN n n).find? fun o => champB n bt o == t with
  | some o => .tup (natD o)
  | none => .non)
/-- J's changing part is a hand at a, beside T -/
structure IsHand (J : GJ) (a : Addr) : Prop where
  ex : ∃ (T : Addr → Prop) (I : Hp → Prop), J.mt = (fun b => b = a ∨ T b) ∧ ¬ T a ∧ (∀ F H, J.inv F H ↔ HandAt a F H ∧ I H) ∧ (∀ H H', (∀ b, T b → H' b = H b) → (∀ b φ, H b = some (.ext φ) → H' b = some (.ext φ)) → I H → I H') ∧ ∀ H b, I H → T b → H b ≠ none
def S__law_draw : Spec := fun J ds q => ∃ a m, ds = [.tk a, .int m] ∧ IsHand J a ∧ 0 < m ∧ m < 1000000000 ∧ ∀ r : Int, 0 ≤ r → r < m → q (.int r)
def S__law_any : Spec := fun J ds q => ∃ a xs, ds = [.tk a, .lst xs] ∧ IsHand J a ∧ xs ≠ [] ∧ xs.length ≤ 1000 ∧ ∀ x ∈ xs, q x
def S__law_like : Spec := fun _ ds q => ∃ d, ds = [d, d] ∧ okE 60 d = true ∧ okS d = true ∧ rl d ≤ sizeLine ∧ q (.bl true)
def S__law_order : Spec := fun J ds q => ∃ (a : Addr) (n : Nat), ds = [.tk a, .int n] ∧ IsHand J a ∧ n ≤ 8 ∧ ∀ l, Perm8 n l → q (.tup (natD l))
def S__law_orders : Spec := fun _ ds q => ∃ n : Nat, ds = [.int n] ∧ n ≤ 6 ∧ q (.lst ((ordN n n).map fun o => .tup (natD o)))
def S__law_beats : Spec := fun J ds q => ∃ a, ds = [.tk a] ∧ IsHand J a ∧ ∀ n bt, Beats n bt → q (bD n bt)
def S__law_kings : Spec := S_kings
def S__law_champion : Spec := S_raw_champion
end DL

namespace DL
open PySem PySem.Spec PyProof.Rows L2

structure Glo (mg : Str → Option Value) : Prop where
  b_abs : mg "abs" = none
  b_all : mg "all" = none
  b_any : mg "any" = none
  b_bool : mg "bool" = none
  b_int : mg "int" = none
  b_isinstance : mg "isinstance" = none
  b_len : mg "len" = none
  b_list : mg "list" = none
  b_range : mg "range" = none
  b_repr : mg "repr" = none
  b_set : mg "set" = none
  b_tuple : mg "tuple" = none
  c_MOST_BEATS : ∃ t, mg "MOST_BEATS" = some (.int 8 t)
  c_MOST_RIGGED : ∃ t, mg "MOST_RIGGED" = some (.int 6 t)

/-! ### is_integer: slots 0 thing -/
abbrev st_is_integer : Stmt := topS 1
abbrev N_is_integer : List Str := ["thing"]
theorem sc_is_integer : FnScope N_is_integer ["thing"] (defScope st_is_integer) := ⟨rfl, rfl, rfl, by decide +kernel, rfl, by decide +kernel, by decide +kernel⟩
def w_is_integer (J : GJ) : WS := sRet (wAnd (wPr oIsi (wCons (wB 0) (wCons (wOf (wC (.ty "int"))) wNil))) (wNot (wPr oIsi (wCons (wB 0) (wCons (wOf (wC (.ty "bool"))) wNil)))))
theorem b_is_integer {g : Bool} {P : Program} {w : World} {K : PySem.W.Frag} {mg : Str → Option Value} {base : Heap} (G : Glo mg)  (J : GJ) {fa : Addr} {cd : Value} {A : Around} {outer : List Env} {s : Shared} {H : Hp} {E : XK} (hr : Rm g 0 (A.deeper (envOfC "is_integer" (defScope st_is_integer) s.heap.objs.size fa cd))) :
    DSs (cxOf L2.CX0 P w K mg base N_is_integer "is_integer" (defScope st_is_integer) fa cd A outer s H E).nox J (defBody st_is_integer) (w_is_integer J) := by
  have nd : N_is_integer.Nodup := sc_is_integer.nd
  have u64 := hr.rm.units
  have u65 : (A.deeper (envOfC "is_integer" (defScope st_is_integer) s.heap.objs.size fa cd)).units + 65 < cLine := by have := hr.rm.un; omega
  have u1 : (A.deeper (envOfC "is_integer" (defScope st_is_integer) s.heap.objs.size fa cd)).units + 1 < cLine := by have := hr.rm.un; omega
  exact (dss_one (ds_ret (de_and (de_callB cd_isi rfl G.b_isinstance PyProof.Rows.boot_isinstance (da_cons (db_var 0 (pv 0)) (da_cons (db_of (de_ty rfl G.b_int PyProof.Rows.boot_int)) da_nil))) (de_one (de_not (de_callB cd_isi rfl G.b_isinstance PyProof.Rows.boot_isinstance (da_cons (db_var 0 (pv 0)) (da_cons (db_of (de_ty rfl G.b_bool PyProof.Rows.boot_bool)) da_nil))))))))
theorem c_is_integer {g : Bool} {P : Program} {w : World} {K : PySem.W.Frag} {mg : Str → Option Value} {base : Heap} (G : Glo mg)  {f : Addr} {fd : FuncData} (Fu : L2.Fun K "is_integer" "is_integer" st_is_integer f fd) (hm : mg "is_integer" = some (.ref f)) (hb : Binds K fd ["thing"] []) (ver : ∀ (J : GJ) (ds : List D) (q : D → Prop), ds.length = 1 → S_is_integer J ds q → w_is_integer J (startE N_is_integer ds) { nx := fun _ => q .non, rt := fun d _ => q d }) : CalG g P w K mg base 1 "is_integer" S_is_integer 1 :=
  cal_D Fu sc_is_integer hm hb (fun J cd A outer s H E hr => b_is_integer G  J hr) ver

/-! ### is_within: slots 0 thing, 1 least, 2 most -/
abbrev st_is_within : Stmt := topS 2
abbrev N_is_within : List Str := ["thing", "least", "most"]
theorem sc_is_within : FnScope N_is_within ["thing", "least", "most"] (defScope st_is_within) := ⟨rfl, rfl, rfl, by decide +kernel, rfl, by decide +kernel, by decide +kernel⟩
def w_is_within (J : GJ) : WS := sRet (wAnd (wCall J S_is_integer 1 (wCons (wOf (wVar 0)) wNil)) (wChain oLe oLe (wB 1) (wB 0) (wB 2)))
theorem b_is_within {g : Bool} {P : Program} {w : World} {K : PySem.W.Frag} {mg : Str → Option Value} {base : Heap} (G : Glo mg) (c_is_integer : CalG g P w K mg base 1 "is_integer" S_is_integer 1) (J : GJ) {fa : Addr} {cd : Value} {A : Around} {outer : List Env} {s : Shared} {H : Hp} {E : XK} (hr : Rm g 1 (A.deeper (envOfC "is_within" (defScope st_is_within) s.heap.objs.size fa cd))) :
    DSs (cxOf L2.CX0 P w K mg base N_is_within "is_within" (defScope st_is_within) fa cd A outer s H E).nox J (defBody st_is_within) (w_is_within J) := by
  have nd : N_is_within.Nodup := sc_is_within.nd
  have u64 := hr.rm.units
  have u65 : (A.deeper (envOfC "is_within" (defScope st_is_within) s.heap.objs.size fa cd)).units + 65 < cLine := by have := hr.rm.un; omega
  have u1 : (A.deeper (envOfC "is_within" (defScope st_is_within) s.heap.objs.size fa cd)).units + 1 < cLine := by have := hr.rm.un; omega
  exact (dss_one (ds_ret (de_and (de_call c_is_integer hr (by decide) rfl (da_cons (db_of (de_var 0 (pv 0))) da_nil)) (de_one (de_chain od_le od_le (db_var 1 (pv 1)) (db_var 0 (pv 0)) (db_var 2 (pv 2)))))))
theorem c_is_within {g : Bool} {P : Program} {w : World} {K : PySem.W.Frag} {mg : Str → Option Value} {base : Heap} (G : Glo mg) (c_is_integer : CalG g P w K mg base 1 "is_integer" S_is_integer 1) {f : Addr} {fd : FuncData} (Fu : L2.Fun K "is_within" "is_within" st_is_within f fd) (hm : mg "is_within" = some (.ref f)) (hb : Binds K fd ["thing", "least", "most"] []) (ver : ∀ (J : GJ) (ds : List D) (q : D → Prop), ds.length = 3 → S_is_within J ds q → w_is_within J (startE N_is_within ds) { nx := fun _ => q .non, rt := fun d _ => q d }) : CalG g P w K mg base 2 "is_within" S_is_within 3 :=
  cal_D Fu sc_is_within hm hb (fun J cd A outer s H E hr => b_is_within G c_is_integer J hr) ver

/-! ### is_tuple: slots 0 thing, 1 size -/
abbrev st_is_tuple : Stmt := topS 3
abbrev N_is_tuple : List Str := ["thing", "size"]
theorem sc_is_tuple : FnScope N_is_tuple ["thing", "size"] (defScope st_is_tuple) := ⟨rfl, rfl, rfl, by decide +kernel, rfl, by decide +kernel, by decide +kernel⟩
def w_is_tuple (J : GJ) : WS := sRet (wAnd (wPr oIsi (wCons (wB 0) (wCons (wOf (wC (.ty "tuple"))) wNil))) (w2 oEq (wOf (wPr oLen (wCons (wB 0) wNil))) (wB 1)))
theorem b_is_tuple {g : Bool} {P : Program} {w : World} {K : PySem.W.Frag} {mg : Str → Option Value} {base : Heap} (G : Glo mg)  (J : GJ) {fa : Addr} {cd : Value} {A : Around} {outer : List Env} {s : Shared} {H : Hp} {E : XK} (hr : Rm g 0 (A.deeper (envOfC "is_tuple" (defScope st_is_tuple) s.heap.objs.size fa cd))) :
    DSs (cxOf L2.CX0 P w K mg base N_is_tuple "is_tuple" (defScope st_is_tuple) fa cd A outer s H E).nox J (defBody st_is_tuple) (w_is_tuple J) := by
  have nd : N_is_tuple.Nodup := sc_is_tuple.nd
  have u64 := hr.rm.units
  have u65 : (A.deeper (envOfC "is_tuple" (defScope st_is_tuple) s.heap.objs.size fa cd)).units + 65 < cLine := by have := hr.rm.un; omega
  have u1 : (A.deeper (envOfC "is_tuple" (defScope st_is_tuple) s.heap.objs.size fa cd)).units + 1 < cLine := by have := hr.rm.un; omega
  exact (dss_one (ds_ret (de_and (de_callB cd_isi rfl G.b_isinstance PyProof.Rows.boot_isinstance (da_cons (db_var 0 (pv 0)) (da_cons (db_of (de_ty rfl G.b_tuple PyProof.Rows.boot_tuple)) da_nil))) (de_one (de_cmp (od_eq u64) (db_of (de_callB cd_len rfl G.b_len PySem.boot_len (da_cons (db_var 0 (pv 0)) da_nil))) (db_var 1 (pv 1)) (by with_unfolding_all rfl))))))
theorem c_is_tuple {g : Bool} {P : Program} {w : World} {K : PySem.W.Frag} {mg : Str → Option Value} {base : Heap} (G : Glo mg)  {f : Addr} {fd : FuncData} (Fu : L2.Fun K "is_tuple" "is_tuple" st_is_tuple f fd) (hm : mg "is_tuple" = some (.ref f)) (hb : Binds K fd ["thing", "size"] []) (ver : ∀ (J : GJ) (ds : List D) (q : D → Prop), ds.length = 2 → S_is_tuple J ds q → w_is_tuple J (startE N_is_tuple ds) { nx := fun _ => q .non, rt := fun d _ => q d }) : CalG g P w K mg base 1 "is_tuple" S_is_tuple 2 :=
  cal_D Fu sc_is_tuple hm hb (fun J cd A outer s H E hr => b_is_tuple G  J hr) ver

/-! ### is_sized: slots 0 thing, 1 least, 2 most -/
abbrev st_is_sized : Stmt := topS 4
abbrev N_is_sized : List Str := ["thing", "least", "most"]
theorem sc_is_sized : FnScope N_is_sized ["thing", "least", "most"] (defScope st_is_sized) := ⟨rfl, rfl, rfl, by decide +kernel, rfl, by decide +kernel, by decide +kernel⟩
def w_is_sized (J : GJ) : WS := sRet (wAnd (wPr oIsi (wCons (wB 0) (wCons (wOf (wC (.ty "tuple"))) wNil))) (wChain oLe oLe (wB 1) (wOf (wPr oLen (wCons (wB 0) wNil))) (wB 2)))
theorem b_is_sized {g : Bool} {P : Program} {w : World} {K : PySem.W.Frag} {mg : Str → Option Value} {base : Heap} (G : Glo mg)  (J : GJ) {fa : Addr} {cd : Value} {A : Around} {outer : List Env} {s : Shared} {H : Hp} {E : XK} (hr : Rm g 0 (A.deeper (envOfC "is_sized" (defScope st_is_sized) s.heap.objs.size fa cd))) :
    DSs (cxOf L2.CX0 P w K mg base N_is_sized "is_sized" (defScope st_is_sized) fa cd A outer s H E).nox J (defBody st_is_sized) (w_is_sized J) := by
  have nd : N_is_sized.Nodup := sc_is_sized.nd
  have u64 := hr.rm.units
  have u65 : (A.deeper (envOfC "is_sized" (defScope st_is_sized) s.heap.objs.size fa cd)).units + 65 < cLine := by have := hr.rm.un; omega
  have u1 : (A.deeper (envOfC "is_sized" (defScope st_is_sized) s.heap.objs.size fa cd)).units + 1 < cLine := by have := hr.rm.un; omega
  exact (dss_one (ds_ret (de_and (de_callB cd_isi rfl G.b_isinstance PyProof.Rows.boot_isinstance (da_cons (db_var 0 (pv 0)) (da_cons (db_of (de_ty rfl G.b_tuple PyProof.Rows.boot_tuple)) da_nil))) (de_one (de_chain od_le od_le (db_var 1 (pv 1)) (db_of (de_callB cd_len rfl G.b_len PySem.boot_len (da_cons (db_var 0 (pv 0)) da_nil))) (db_var 2 (pv 2)))))))
theorem c_is_sized {g : Bool} {P : Program} {w : World} {K : PySem.W.Frag} {mg : Str → Option Value} {base : Heap} (G : Glo mg)  {f : Addr} {fd : FuncData} (Fu : L2.Fun K "is_sized" "is_sized" st_is_sized f fd) (hm : mg "is_sized" = some (.ref f)) (hb : Binds K fd ["thing", "least", "most"] []) (ver : ∀ (J : GJ) (ds : List D) (q : D → Prop), ds.length = 3 → S_is_sized J ds q → w_is_sized J (startE N_is_sized ds) { nx := fun _ => q .non, rt := fun d _ => q d }) : CalG g P w K mg base 1 "is_sized" S_is_sized 3 :=
  cal_D Fu sc_is_sized hm hb (fun J cd A outer s H E hr => b_is_sized G  J hr) ver

/-! ### is_order: slots 0 thing, 1 many, 2 one -/
abbrev st_is_order : Stmt := topS 5
abbrev N_is_order : List Str := ["thing", "many", "one"]
theorem sc_is_order : FnScope N_is_order ["thing", "many"] (defScope st_is_order) := ⟨rfl, rfl, rfl, by decide +kernel, rfl, by decide +kernel, by decide +kernel⟩
def w_is_order (J : GJ) : WS := sSeq (sIf (wTOr (wTNot (wTB (wCall J S_is_tuple 2 (wCons (wOf (wVar 0)) (wCons (wOf (wVar 1)) wNil))))) (wTNot (wTB (wPr oAll (wCons (wOf (wLC [2] (wIs (wVar 0)) (gN 2) wYes (wCall J S_is_within 3 (wCons (wOf (wVar 2)) (wCons (wOf (wC (.int 0))) (wCons (wOf (w2 oSub (wB 1) (wOf (wC (.int 1))))) wNil)))))) wNil))))) (sRet (wC (.bl false))) sNil) (sRet (w2 oEq (wOf (wLenSet (wVar 0))) (wB 1)))
theorem b_is_order {g : Bool} {P : Program} {w : World} {K : PySem.W.Frag} {mg : Str → Option Value} {base : Heap} (G : Glo mg) (c_is_tuple : CalG g P w K mg base 1 "is_tuple" S_is_tuple 2) (c_is_within : CalG g P w K mg base 2 "is_within" S_is_within 3) (J : GJ) {fa : Addr} {cd : Value} {A : Around} {outer : List Env} {s : Shared} {H : Hp} {E : XK} (hr : Rm g 2 (A.deeper (envOfC "is_order" (defScope st_is_order) s.heap.objs.size fa cd))) :
    DSs (cxOf L2.CX0 P w K mg base N_is_order "is_order" (defScope st_is_order) fa cd A outer s H E).nox J (defBody st_is_order) (w_is_order J) := by
  have nd : N_is_order.Nodup := sc_is_order.nd
  have u64 := hr.rm.units
  have u65 : (A.deeper (envOfC "is_order" (defScope st_is_order) s.heap.objs.size fa cd)).units + 65 < cLine := by have := hr.rm.un; omega
  have u1 : (A.deeper (envOfC "is_order" (defScope st_is_order) s.heap.objs.size fa cd)).units + 1 < cLine := by have := hr.rm.un; omega
  exact (dss_cons (ds_if (dt_of (dw_or (dt_not (dt_val (de_call c_is_tuple hr (by decide) rfl (da_cons (db_of (de_var 0 (pv 0))) (da_cons (db_of (de_var 1 (pv 1))) da_nil))))) (dw_or1 (dt_not (dt_val (de_callB (cd_all rfl) rfl G.b_all PyProof.Rows.boot_all (da_cons (db_of (de_lc rfl nd (di_seq (de_var 0 (pv 0))) (blkOk_by (own := [("one", 2)]) (by kernel_rfl)) (fun _ _ _ _ _ => (dg_name 2 (L2.pg_name nd rfl (by first | exact .inl rfl | exact .inr rfl)))) (fun _ _ _ _ _ => dts_nil) (fun _ _ _ _ _ => (de_call c_is_within hr (by decide) rfl (da_cons (db_of (de_var 2 (pv 2))) (da_cons (db_of de_int) (da_cons (db_of (de_op od_sub (db_var 1 (pv 1)) (db_of de_int))) da_nil))))))) da_nil))))))) (dss_one (ds_ret de_bl)) dss_nil) (dss_one (ds_ret (de_cmp (od_eq u64) (db_of (de_lenSet rfl G.b_len rfl G.b_set (de_var 0 (pv 0)))) (db_var 1 (pv 1)) (by with_unfolding_all rfl)))))
theorem c_is_order {g : Bool} {P : Program} {w : World} {K : PySem.W.Frag} {mg : Str → Option Value} {base : Heap} (G : Glo mg) (c_is_tuple : CalG g P w K mg base 1 "is_tuple" S_is_tuple 2) (c_is_within : CalG g P w K mg base 2 "is_within" S_is_within 3) {f : Addr} {fd : FuncData} (Fu : L2.Fun K "is_order" "is_order" st_is_order f fd) (hm : mg "is_order" = some (.ref f)) (hb : Binds K fd ["thing", "many"] []) (ver : ∀ (J : GJ) (ds : List D) (q : D → Prop), ds.length = 2 → S_is_order J ds q → w_is_order J (startE N_is_order ds) { nx := fun _ => q .non, rt := fun d _ => q d }) : CalG g P w K mg base 3 "is_order" S_is_order 2 :=
  cal_D Fu sc_is_order hm hb (fun J cd A outer s H E hr => b_is_order G c_is_tuple c_is_within J hr) ver

/-! ### orders_of: slots 0 things, 1 found, 2 turn, 3 order, 4 one -/
abbrev st_orders_of : Stmt := topS 6
abbrev N_orders_of : List Str := ["things", "found", "turn", "order", "one"]
theorem sc_orders_of : FnScope N_orders_of ["things"] (defScope st_orders_of) := ⟨rfl, rfl, rfl, by decide +kernel, rfl, by decide +kernel, by decide +kernel⟩
def w_orders_of (J : GJ) : WS := sSeq (sSet 1 (wVal (wLst (wCons (wOf (wTup wNil)) wNil)))) (sSeq (sFor (wIs (wVar 0)) (gN 2) (sSet 1 (wVal (wLC2 [3, 4] [4] (wIs (wVar 1)) (gN 3) wYes (wIs (wVar 0)) (gN 4) (wTB (w2 oNotIn (wB 4) (wB 3))) (w2 oAdd (wB 3) (wOf (wTup (wCons (wOf (wVar 4)) wNil)))))))) (sRet (wVar 1)))
theorem b_orders_of {g : Bool} {P : Program} {w : World} {K : PySem.W.Frag} {mg : Str → Option Value} {base : Heap} (G : Glo mg)  (J : GJ) {fa : Addr} {cd : Value} {A : Around} {outer : List Env} {s : Shared} {H : Hp} {E : XK} (hr : Rm g 0 (A.deeper (envOfC "orders_of" (defScope st_orders_of) s.heap.objs.size fa cd))) :
    DSs (cxOf L2.CX0 P w K mg base N_orders_of "orders_of" (defScope st_orders_of) fa cd A outer s H E).nox J (defBody st_orders_of) (w_orders_of J) := by
  have nd : N_orders_of.Nodup := sc_orders_of.nd
  have u64 := hr.rm.units
  have u65 : (A.deeper (envOfC "orders_of" (defScope st_orders_of) s.heap.objs.size fa cd)).units + 65 < cLine := by have := hr.rm.un; omega
  have u1 : (A.deeper (envOfC "orders_of" (defScope st_orders_of) s.heap.objs.size fa cd)).units + 1 < cLine := by have := hr.rm.un; omega
  exact (dss_cons (ds_set nd rfl (by first | exact .inl rfl | exact .inr rfl) (dv_of (de_lst (da_cons (db_of (de_tup da_nil)) da_nil)))) (dss_cons (ds_for PassesOwn.never rfl (di_seq (de_var 0 (pv 0))) (dg_name 2 (L2.pg_name nd rfl (by first | exact .inl rfl | exact .inr rfl))) (dss_one (ds_setLc2 rfl nd rfl rfl rfl (di_seq (de_var 1 (pv 1))) (blkOk_by (own := [("order", 3), ("one", 4)]) (by kernel_rfl)) (by decide) (fun _ _ _ _ _ => DG.wide (dg_name 3 (L2.pg_name nd rfl (by first | exact .inl rfl | exact .inr rfl))) (by decide)) (fun _ _ _ _ _ => dts_nil) (fun _ _ _ _ _ => (di_seq (de_var 0 (pv 0)))) (fun _ _ _ _ _ => (dg_name 4 (L2.pg_name nd rfl (by first | exact .inl rfl | exact .inr rfl)))) (fun _ _ _ _ _ => dts_one (dt_cmp (od_notIn u65) (db_var 4 (pv 4)) (db_var 3 (pv 3)) (by with_unfolding_all rfl))) (fun _ _ _ _ _ => (de_op od_add (db_var 3 (pv 3)) (db_of (de_tup (da_cons (db_of (de_var 4 (pv 4))) da_nil)))))))) (dss_one (ds_ret (de_var 1 (pv 1))))))
theorem c_orders_of {g : Bool} {P : Program} {w : World} {K : PySem.W.Frag} {mg : Str → Option Value} {base : Heap} (G : Glo mg)  {f : Addr} {fd : FuncData} (Fu : L2.Fun K "orders_of" "orders_of" st_orders_of f fd) (hm : mg "orders_of" = some (.ref f)) (hb : Binds K fd ["things"] []) (ver : ∀ (J : GJ) (ds : List D) (q : D → Prop), ds.length = 1 → S_orders_of J ds q → w_orders_of J (startE N_orders_of ds) { nx := fun _ => q .non, rt := fun d _ => q d }) : CalG g P w K mg base 1 "orders_of" S_orders_of 1 :=
  cal_D Fu sc_orders_of hm hb (fun J cd A outer s H E hr => b_orders_of G  J hr) ver

/-! ### check_team: slots 0 many, 1 thing -/
abbrev st_check_team : Stmt := topS 16
abbrev N_check_team : List Str := ["many", "thing"]
theorem sc_check_team : FnScope N_check_team ["many", "thing"] (defScope st_check_team) := ⟨rfl, rfl, rfl, by decide +kernel, rfl, by decide +kernel, by decide +kernel⟩
def w_check_team (J : GJ) : WS := sIf (wTNot (wTB (wCall J S_is_within 3 (wCons (wOf (wVar 1)) (wCons (wOf (wC (.int 0))) (wCons (wOf (w2 oSub (wB 0) (wOf (wC (.int 1))))) wNil)))))) sNever sNil
theorem b_check_team {g : Bool} {P : Program} {w : World} {K : PySem.W.Frag} {mg : Str → Option Value} {base : Heap} (G : Glo mg) (c_is_within : CalG g P w K mg base 2 "is_within" S_is_within 3) (J : GJ) {fa : Addr} {cd : Value} {A : Around} {outer : List Env} {s : Shared} {H : Hp} {E : XK} (hr : Rm g 2 (A.deeper (envOfC "check_team" (defScope st_check_team) s.heap.objs.size fa cd))) :
    DSs (cxOf L2.CX0 P w K mg base N_check_team "check_team" (defScope st_check_team) fa cd A outer s H E).nox J (defBody st_check_team) (w_check_team J) := by
  have nd : N_check_team.Nodup := sc_check_team.nd
  have u64 := hr.rm.units
  have u65 : (A.deeper (envOfC "check_team" (defScope st_check_team) s.heap.objs.size fa cd)).units + 65 < cLine := by have := hr.rm.un; omega
  have u1 : (A.deeper (envOfC "check_team" (defScope st_check_team) s.heap.objs.size fa cd)).units + 1 < cLine := by have := hr.rm.un; omega
  exact (dss_one (ds_if (dt_not (dt_val (de_call c_is_within hr (by decide) rfl (da_cons (db_of (de_var 1 (pv 1))) (da_cons (db_of de_int) (da_cons (db_of (de_op od_sub (db_var 0 (pv 0)) (db_of de_int))) da_nil)))))) (dss_one ds_never) dss_nil))
theorem c_check_team {g : Bool} {P : Program} {w : World} {K : PySem.W.Frag} {mg : Str → Option Value} {base : Heap} (G : Glo mg) (c_is_within : CalG g P w K mg base 2 "is_within" S_is_within 3) {f : Addr} {fd : FuncData} (Fu : L2.Fun K "check_team" "check_team" st_check_team f fd) (hm : mg "check_team" = some (.ref f)) (hb : Binds K fd ["many", "thing"] []) (ver : ∀ (J : GJ) (ds : List D) (q : D → Prop), ds.length = 2 → S_check_team J ds q → w_check_team J (startE N_check_team ds) { nx := fun _ => q .non, rt := fun d _ => q d }) : CalG g P w K mg base 3 "check_team" S_check_team 2 :=
  cal_D Fu sc_check_team hm hb (fun J cd A outer s H E hr => b_check_team G c_is_within J hr) ver

/-! ### are_beats: slots 0 thing, 1 row, 2 flag, 3 one, 4 other -/
abbrev st_are_beats : Stmt := topS 17
abbrev N_are_beats : List Str := ["thing", "row", "flag", "one", "other"]
theorem sc_are_beats : FnScope N_are_beats ["thing"] (defScope st_are_beats) := ⟨rfl, rfl, rfl, by decide +kernel, rfl, by decide +kernel, by decide +kernel⟩
def w_are_beats (J : GJ) : WS := sSeq (sIf (wTOr (wTNot (wTB (wCall J S_is_sized 3 (wCons (wOf (wVar 0)) (wCons (wOf (wC (.int 1))) (wCons (wOf (wC (.int 8))) wNil)))))) (wTNot (wTB (wPr oAll (wCons (wOf (wLC [1] (wIs (wVar 0)) (gN 1) wYes (wCall J S_is_tuple 2 (wCons (wOf (wVar 1)) (wCons (wOf (wPr oLen (wCons (wB 0) wNil))) wNil))))) wNil))))) (sRet (wC (.bl false))) sNil) (sSeq (sIf (wTNot (wTB (wPr oAll (wCons (wOf (wLC2 [1, 2] [2] (wIs (wVar 0)) (gN 1) wYes (wIs (wVar 1)) (gN 2) wYes (wPr oIsi (wCons (wB 2) (wCons (wOf (wC (.ty "bool"))) wNil))))) wNil)))) (sRet (wC (.bl false))) sNil) (sSeq (sFor (wR1 (wCons (wOf (wPr oLen (wCons (wB 0) wNil))) wNil)) (gN 3) (sIf (wTOr (wTB (w2 oIx (wOf (w2 oIx (wB 0) (wB 3))) (wB 3))) (wTNot (wTB (wPr oAll (wCons (wOf (wLC [4] (wR1 (wCons (wOf (wVar 3)) wNil)) (gN 4) wYes (w2 oNe (wOf (w2 oIx (wOf (w2 oIx (wB 0) (wB 3))) (wB 4))) (wOf (w2 oIx (wOf (w2 oIx (wB 0) (wB 4))) (wB 3)))))) wNil))))) (sRet (wC (.bl false))) sNil)) (sRet (wC (.bl true)))))
theorem b_are_beats {g : Bool} {P : Program} {w : World} {K : PySem.W.Frag} {mg : Str → Option Value} {base : Heap} (G : Glo mg) (c_is_sized : CalG g P w K mg base 1 "is_sized" S_is_sized 3) (c_is_tuple : CalG g P w K mg base 1 "is_tuple" S_is_tuple 2) (J : GJ) {fa : Addr} {cd : Value} {A : Around} {outer : List Env} {s : Shared} {H : Hp} {E : XK} (hr : Rm g 1 (A.deeper (envOfC "are_beats" (defScope st_are_beats) s.heap.objs.size fa cd))) :
    DSs (cxOf L2.CX0 P w K mg base N_are_beats "are_beats" (defScope st_are_beats) fa cd A outer s H E).nox J (defBody st_are_beats) (w_are_beats J) := by
  have nd : N_are_beats.Nodup := sc_are_beats.nd
  have u64 := hr.rm.units
  have u65 : (A.deeper (envOfC "are_beats" (defScope st_are_beats) s.heap.objs.size fa cd)).units + 65 < cLine := by have := hr.rm.un; omega
  have u1 : (A.deeper (envOfC "are_beats" (defScope st_are_beats) s.heap.objs.size fa cd)).units + 1 < cLine := by have := hr.rm.un; omega
  exact (dss_cons (ds_if (dt_of (dw_or (dt_not (dt_val (de_call c_is_sized hr (by decide) rfl (da_cons (db_of (de_var 0 (pv 0))) (da_cons (db_of de_int) (da_cons (db_of (de_gi rfl G.c_MOST_BEATS)) da_nil)))))) (dw_or1 (dt_not (dt_val (de_callB (cd_all rfl) rfl G.b_all PyProof.Rows.boot_all (da_cons (db_of (de_lc rfl nd (di_seq (de_var 0 (pv 0))) (blkOk_by (own := [("row", 1)]) (by kernel_rfl)) (fun _ _ _ _ _ => (dg_name 1 (L2.pg_name nd rfl (by first | exact .inl rfl | exact .inr rfl)))) (fun _ _ _ _ _ => dts_nil) (fun _ _ _ _ _ => (de_call c_is_tuple hr (by decide) rfl (da_cons (db_of (de_var 1 (pv 1))) (da_cons (db_of (de_callB cd_len rfl G.b_len PySem.boot_len (da_cons (db_var 0 (pv 0)) da_nil))) da_nil)))))) da_nil))))))) (dss_one (ds_ret de_bl)) dss_nil) (dss_cons (ds_if (dt_not (dt_val (de_callB (cd_all rfl) rfl G.b_all PyProof.Rows.boot_all (da_cons (db_of (de_lc2 rfl nd (di_seq (de_var 0 (pv 0))) (blkOk_by (own := [("row", 1), ("flag", 2)]) (by kernel_rfl)) (by decide) (fun _ _ _ _ _ => DG.wide (dg_name 1 (L2.pg_name nd rfl (by first | exact .inl rfl | exact .inr rfl))) (by decide)) (fun _ _ _ _ _ => dts_nil) (fun _ _ _ _ _ => (di_seq (de_var 1 (pv 1)))) (fun _ _ _ _ _ => (dg_name 2 (L2.pg_name nd rfl (by first | exact .inl rfl | exact .inr rfl)))) (fun _ _ _ _ _ => dts_nil) (fun _ _ _ _ _ => (de_callB cd_isi rfl G.b_isinstance PyProof.Rows.boot_isinstance (da_cons (db_var 2 (pv 2)) (da_cons (db_of (de_ty rfl G.b_bool PyProof.Rows.boot_bool)) da_nil)))))) da_nil)))) (dss_one (ds_ret de_bl)) dss_nil) (dss_cons (ds_for PassesOwn.never rfl (di_r1 (by rfl) G.b_range (da_cons (db_of (de_callB cd_len rfl G.b_len PySem.boot_len (da_cons (db_var 0 (pv 0)) da_nil))) da_nil)) (dg_name 3 (L2.pg_name nd rfl (by first | exact .inl rfl | exact .inr rfl))) (dss_one (ds_if (dt_of (dw_or (dt_val (de_ix od_ix (db_of (de_ix od_ix (db_var 0 (pv 0)) (db_var 3 (pv 3)) (fun _ _ => rfl))) (db_var 3 (pv 3)) (fun _ _ => rfl))) (dw_or1 (dt_not (dt_val (de_callB (cd_all rfl) rfl G.b_all PyProof.Rows.boot_all (da_cons (db_of (de_lc rfl nd (di_r1 (by rfl) G.b_range (da_cons (db_of (de_var 3 (pv 3))) da_nil)) (blkOk_by (own := [("other", 4)]) (by kernel_rfl)) (fun _ _ _ _ _ => (dg_name 4 (L2.pg_name nd rfl (by first | exact .inl rfl | exact .inr rfl)))) (fun _ _ _ _ _ => dts_nil) (fun _ _ _ _ _ => (de_cmp (od_ne u64) (db_of (de_ix od_ix (db_of (de_ix od_ix (db_var 0 (pv 0)) (db_var 3 (pv 3)) (fun _ _ => rfl))) (db_var 4 (pv 4)) (fun _ _ => rfl))) (db_of (de_ix od_ix (db_of (de_ix od_ix (db_var 0 (pv 0)) (db_var 4 (pv 4)) (fun _ _ => rfl))) (db_var 3 (pv 3)) (fun _ _ => rfl))) (by with_unfolding_all rfl))))) da_nil))))))) (dss_one (ds_ret de_bl)) dss_nil))) (dss_one (ds_ret de_bl)))))
theorem c_are_beats {g : Bool} {P : Program} {w : World} {K : PySem.W.Frag} {mg : Str → Option Value} {base : Heap} (G : Glo mg) (c_is_sized : CalG g P w K mg base 1 "is_sized" S_is_sized 3) (c_is_tuple : CalG g P w K mg base 1 "is_tuple" S_is_tuple 2) {f : Addr} {fd : FuncData} (Fu : L2.Fun K "are_beats" "are_beats" st_are_beats f fd) (hm : mg "are_beats" = some (.ref f)) (hb : Binds K fd ["thing"] []) (ver : ∀ (J : GJ) (ds : List D) (q : D → Prop), ds.length = 1 → S_are_beats J ds q → w_are_beats J (startE N_are_beats ds) { nx := fun _ => q .non, rt := fun d _ => q d }) : CalG g P w K mg base 2 "are_beats" S_are_beats 1 :=
  cal_D Fu sc_are_beats hm hb (fun J cd A outer s H E hr => b_are_beats G c_is_sized c_is_tuple J hr) ver

/-! ### check_beats: slots 0 thing -/
abbrev st_check_beats : Stmt := topS 18
abbrev N_check_beats : List Str := ["thing"]
theorem sc_check_beats : FnScope N_check_beats ["thing"] (defScope st_check_beats) := ⟨rfl, rfl, rfl, by decide +kernel, rfl, by decide +kernel, by decide +kernel⟩
def w_check_beats (J : GJ) : WS := sIf (wTNot (wTB (wCall J S_are_beats 1 (wCons (wOf (wVar 0)) wNil)))) sNever sNil
theorem b_check_beats {g : Bool} {P : Program} {w : World} {K : PySem.W.Frag} {mg : Str → Option Value} {base : Heap} (G : Glo mg) (c_are_beats : CalG g P w K mg base 2 "are_beats" S_are_beats 1) (J : GJ) {fa : Addr} {cd : Value} {A : Around} {outer : List Env} {s : Shared} {H : Hp} {E : XK} (hr : Rm g 2 (A.deeper (envOfC "check_beats" (defScope st_check_beats) s.heap.objs.size fa cd))) :
    DSs (cxOf L2.CX0 P w K mg base N_check_beats "check_beats" (defScope st_check_beats) fa cd A outer s H E).nox J (defBody st_check_beats) (w_check_beats J) := by
  have nd : N_check_beats.Nodup := sc_check_beats.nd
  have u64 := hr.rm.units
  have u65 : (A.deeper (envOfC "check_beats" (defScope st_check_beats) s.heap.objs.size fa cd)).units + 65 < cLine := by have := hr.rm.un; omega
  have u1 : (A.deeper (envOfC "check_beats" (defScope st_check_beats) s.heap.objs.size fa cd)).units + 1 < cLine := by have := hr.rm.un; omega
  exact (dss_one (ds_if (dt_not (dt_val (de_call c_are_beats hr (by decide) rfl (da_cons (db_of (de_var 0 (pv 0))) da_nil)))) (dss_one ds_never) dss_nil))
theorem c_check_beats {g : Bool} {P : Program} {w : World} {K : PySem.W.Frag} {mg : Str → Option Value} {base : Heap} (G : Glo mg) (c_are_beats : CalG g P w K mg base 2 "are_beats" S_are_beats 1) {f : Addr} {fd : FuncData} (Fu : L2.Fun K "check_beats" "check_beats" st_check_beats f fd) (hm : mg "check_beats" = some (.ref f)) (hb : Binds K fd ["thing"] []) (ver : ∀ (J : GJ) (ds : List D) (q : D → Prop), ds.length = 1 → S_check_beats J ds q → w_check_beats J (startE N_check_beats ds) { nx := fun _ => q .non, rt := fun d _ => q d }) : CalG g P w K mg base 3 "check_beats" S_check_beats 1 :=
  cal_D Fu sc_check_beats hm hb (fun J cd A outer s H E hr => b_check_beats G c_are_beats J hr) ver

/-! ### kings: slots 0 beats, 1 every, 2 found, 3 one, 4 near, 5 other, 6 its -/
abbrev st_kings : Stmt := topS 19
abbrev N_kings : List Str := ["beats", "every", "found", "one", "near", "other", "its"]
theorem sc_kings : FnScope N_kings ["beats"] (defScope st_kings) := ⟨rfl, rfl, rfl, by decide +kernel, rfl, by decide +kernel, by decide +kernel⟩
def w_kings (J : GJ) : WS := sSeq (sDrop (wCall J S_check_beats 1 (wCons (wOf (wVar 0)) wNil))) (sSeq (sPar 1 2 (wVal (wLRg (wPr oLen (wCons (wB 0) wNil)))) (wNewL wNil)) (sSeq (sFor (wIs (wVar 1)) (gN 3) (sSeq (sSet 4 (wVal (wLC [5] (wIs (wVar 1)) (gN 5) (wTB (w2 oIx (wOf (w2 oIx (wB 0) (wB 3))) (wB 5))) (wVar 5)))) (sIf (wTB (wPr oAll (wCons (wOf (wLC [5] (wIs (wVar 1)) (gN 5) (wTB (w2 oNe (wB 5) (wB 3))) (wOr (w2 oIn (wB 5) (wB 4)) (wPr oAny (wCons (wOf (wLC [6] (wIs (wVar 4)) (gN 6) wYes (w2 oIx (wOf (w2 oIx (wB 0) (wB 6))) (wB 5)))) wNil))))) wNil))) (sDrop (wApp 2 (wVar 3))) sNil))) (sRet (wPr oTuple (wCons (wB 2) wNil)))))
theorem b_kings {g : Bool} {P : Program} {w : World} {K : PySem.W.Frag} {mg : Str → Option Value} {base : Heap} (G : Glo mg) (c_check_beats : CalG g P w K mg base 3 "check_beats" S_check_beats 1) (J : GJ) {fa : Addr} {cd : Value} {A : Around} {outer : List Env} {s : Shared} {H : Hp} {E : XK} (hr : Rm g 3 (A.deeper (envOfC "kings" (defScope st_kings) s.heap.objs.size fa cd))) :
    DSs (cxOf L2.CX0 P w K mg base N_kings "kings" (defScope st_kings) fa cd A outer s H E).nox J (defBody st_kings) (w_kings J) := by
  have nd : N_kings.Nodup := sc_kings.nd
  have u64 := hr.rm.units
  have u65 : (A.deeper (envOfC "kings" (defScope st_kings) s.heap.objs.size fa cd)).units + 65 < cLine := by have := hr.rm.un; omega
  have u1 : (A.deeper (envOfC "kings" (defScope st_kings) s.heap.objs.size fa cd)).units + 1 < cLine := by have := hr.rm.un; omega
  exact (dss_cons (ds_expr (de_call c_check_beats hr (by decide) rfl (da_cons (db_of (de_var 0 (pv 0))) da_nil))) (dss_cons (ds_par rfl nd rfl rfl (by decide) rfl rfl (dv_of (de_lrg rfl rfl G.b_list rfl G.b_range (de_callB cd_len rfl G.b_len PySem.boot_len (da_cons (db_var 0 (pv 0)) da_nil)))) (dv_lst da_nil) rfl) (dss_cons (ds_for PassesOwn.never rfl (di_seq (de_var 1 (pv 1))) (dg_name 3 (L2.pg_name nd rfl (by first | exact .inl rfl | exact .inr rfl))) (dss_cons (ds_set nd rfl (by first | exact .inl rfl | exact .inr rfl) (dv_of (de_lc rfl nd (di_seq (de_var 1 (pv 1))) (blkOk_by (own := [("other", 5)]) (by kernel_rfl)) (fun _ _ _ _ _ => (dg_name 5 (L2.pg_name nd rfl (by first | exact .inl rfl | exact .inr rfl)))) (fun _ _ _ _ _ => dts_one (dt_val (de_ix od_ix (db_of (de_ix od_ix (db_var 0 (pv 0)) (db_var 3 (pv 3)) (fun _ _ => rfl))) (db_var 5 (pv 5)) (fun _ _ => rfl)))) (fun _ _ _ _ _ => (de_var 5 (pv 5)))))) (dss_one (ds_if (dt_val (de_callB (cd_all rfl) rfl G.b_all PyProof.Rows.boot_all (da_cons (db_of (de_lc rfl nd (di_seq (de_var 1 (pv 1))) (blkOk_by (own := [("other", 5)]) (by kernel_rfl)) (fun _ _ _ _ _ => (dg_name 5 (L2.pg_name nd rfl (by first | exact .inl rfl | exact .inr rfl)))) (fun _ _ _ _ _ => dts_one (dt_cmp (od_ne u64) (db_var 5 (pv 5)) (db_var 3 (pv 3)) (by with_unfolding_all rfl))) (fun _ _ _ _ _ => (de_or (de_cmp (od_in u65) (db_var 5 (pv 5)) (db_var 4 (pv 4)) (by with_unfolding_all rfl)) (de_one (de_callB (cd_any rfl) rfl G.b_any PyProof.Rows.boot_any (da_cons (db_of (de_lc rfl nd (di_seq (de_var 4 (pv 4))) (blkOk_by (own := [("its", 6)]) (by kernel_rfl)) (fun _ _ _ _ _ => (dg_name 6 (L2.pg_name nd rfl (by first | exact .inl rfl | exact .inr rfl)))) (fun _ _ _ _ _ => dts_nil) (fun _ _ _ _ _ => (de_ix od_ix (db_of (de_ix od_ix (db_var 0 (pv 0)) (db_var 6 (pv 6)) (fun _ _ => rfl))) (db_var 5 (pv 5)) (fun _ _ => rfl))))) da_nil))))))) da_nil))) (dss_one (ds_expr (de_app (pv 2) (de_var 3 (pv 3))))) dss_nil)))) (dss_one (ds_ret (de_callTy cd_tuple rfl G.b_tuple PyProof.Rows.boot_tuple (da_cons (db_var 2 (pv 2)) da_nil)))))))
theorem c_kings {g : Bool} {P : Program} {w : World} {K : PySem.W.Frag} {mg : Str → Option Value} {base : Heap} (G : Glo mg) (c_check_beats : CalG g P w K mg base 3 "check_beats" S_check_beats 1) {f : Addr} {fd : FuncData} (Fu : L2.Fun K "kings" "kings" st_kings f fd) (hm : mg "kings" = some (.ref f)) (hb : Binds K fd ["beats"] []) (ver : ∀ (J : GJ) (ds : List D) (q : D → Prop), ds.length = 1 → S_kings J ds q → w_kings J (startE N_kings ds) { nx := fun _ => q .non, rt := fun d _ => q d }) : CalG g P w K mg base 4 "kings" S_kings 1 :=
  cal_D Fu sc_kings hm hb (fun J cd A outer s H E hr => b_kings G c_check_beats J hr) ver

/-! ### raw_champion: slots 0 beats, 1 order, 2 left, 3 later, 4 at, 5 pair -/
abbrev st_raw_champion : Stmt := topS 20
abbrev N_raw_champion : List Str := ["beats", "order", "left", "later", "at", "pair"]
theorem sc_raw_champion : FnScope N_raw_champion ["beats", "order"] (defScope st_raw_champion) := ⟨rfl, rfl, rfl, by decide +kernel, rfl, by decide +kernel, by decide +kernel⟩
def w_raw_champion (J : GJ) : WS := sSeq (sSet 2 (wVal (wPr oList (wCons (wB 1) wNil)))) (sSeq (sWhile (wTB (w2 oGt (wOf (wPr oLen (wCons (wB 2) wNil))) (wOf (wC (.int 1))))) (sSeq (sSet 3 (wNewL wNil)) (sSeq (sFor (wR3 (wCons (wOf (wC (.int 0))) (wCons (wOf (wPr oLen (wCons (wB 2) wNil))) (wCons (wOf (wC (.int 2))) wNil)))) (gN 4) (sSeq (sSet 5 (wVal (wSl oSl (wB 2) (wOSome (wVar 4)) (wOSome (w2 oAdd (wB 4) (wOf (wC (.int 2)))))))) (sDrop (wApp 3 (wIf (wTOr (wTB (w2 oEq (wOf (wPr oLen (wCons (wB 5) wNil))) (wOf (wC (.int 1))))) (wTB (w2 oIx (wOf (w2 oIx (wB 0) (wOf (w2 oIx (wB 5) (wOf (wC (.int 0))))))) (wOf (w2 oIx (wB 5) (wOf (wC (.int 1)))))))) (w2 oIx (wB 5) (wOf (wC (.int 0)))) (w2 oIx (wB 5) (wOf (wC (.int 1))))))))) (sSet 2 (wVal (wVar 3)))))) (sRet (w2 oIx (wB 2) (wOf (wC (.int 0))))))
theorem b_raw_champion {g : Bool} {P : Program} {w : World} {K : PySem.W.Frag} {mg : Str → Option Value} {base : Heap} (G : Glo mg)  (J : GJ) {fa : Addr} {cd : Value} {A : Around} {outer : List Env} {s : Shared} {H : Hp} {E : XK} (hr : Rm g 0 (A.deeper (envOfC "raw_champion" (defScope st_raw_champion) s.heap.objs.size fa cd))) :
    DSs (cxOf L2.CX0 P w K mg base N_raw_champion "raw_champion" (defScope st_raw_champion) fa cd A outer s H E).nox J (defBody st_raw_champion) (w_raw_champion J) := by
  have nd : N_raw_champion.Nodup := sc_raw_champion.nd
  have u64 := hr.rm.units
  have u65 : (A.deeper (envOfC "raw_champion" (defScope st_raw_champion) s.heap.objs.size fa cd)).units + 65 < cLine := by have := hr.rm.un; omega
  have u1 : (A.deeper (envOfC "raw_champion" (defScope st_raw_champion) s.heap.objs.size fa cd)).units + 1 < cLine := by have := hr.rm.un; omega
  exact (dss_cons (ds_set nd rfl (by first | exact .inl rfl | exact .inr rfl) (dv_of (de_callTy cd_list rfl G.b_list PyProof.Rows.boot_list (da_cons (db_var 1 (pv 1)) da_nil)))) (dss_cons (ds_while PassesOwn.never (dt_cmp od_gt (db_of (de_callB cd_len rfl G.b_len PySem.boot_len (da_cons (db_var 2 (pv 2)) da_nil))) (db_of de_int) (by with_unfolding_all rfl)) (dss_cons (ds_set nd rfl (by first | exact .inl rfl | exact .inr rfl) (dv_lst da_nil)) (dss_cons (ds_for PassesOwn.never rfl (di_r3 (by rfl) G.b_range (da_cons (db_of de_int) (da_cons (db_of (de_callB cd_len rfl G.b_len PySem.boot_len (da_cons (db_var 2 (pv 2)) da_nil))) (da_cons (db_of de_int) da_nil)))) (dg_name 4 (L2.pg_name nd rfl (by first | exact .inl rfl | exact .inr rfl))) (dss_cons (ds_set nd rfl (by first | exact .inl rfl | exact .inr rfl) (dv_of (de_sl od_sl (db_var 2 (pv 2)) (do_some (de_var 4 (pv 4))) (do_some (de_op od_add (db_var 4 (pv 4)) (db_of de_int)))))) (dss_one (ds_expr (de_app (pv 3) (de_if (dt_of (dw_or (dt_cmp (od_eq u64) (db_of (de_callB cd_len rfl G.b_len PySem.boot_len (da_cons (db_var 5 (pv 5)) da_nil))) (db_of de_int) (by with_unfolding_all rfl)) (dw_or1 (dt_val (de_ix od_ix (db_of (de_ix od_ix (db_var 0 (pv 0)) (db_of (de_ix od_ix (db_var 5 (pv 5)) (db_of de_int) (fun _ _ => rfl))) (fun _ _ => rfl))) (db_of (de_ix od_ix (db_var 5 (pv 5)) (db_of de_int) (fun _ _ => rfl))) (fun _ _ => rfl)))))) (de_ix od_ix (db_var 5 (pv 5)) (db_of de_int) (fun _ _ => rfl)) (de_ix od_ix (db_var 5 (pv 5)) (db_of de_int) (fun _ _ => rfl)))))))) (dss_one (ds_set nd rfl (by first | exact .inl rfl | exact .inr rfl) (dv_of (de_var 3 (pv 3)))))))) (dss_one (ds_ret (de_ix od_ix (db_var 2 (pv 2)) (db_of de_int) (fun _ _ => rfl))))))
theorem c_raw_champion {g : Bool} {P : Program} {w : World} {K : PySem.W.Frag} {mg : Str → Option Value} {base : Heap} (G : Glo mg)  {f : Addr} {fd : FuncData} (Fu : L2.Fun K "raw_champion" "raw_champion" st_raw_champion f fd) (hm : mg "raw_champion" = some (.ref f)) (hb : Binds K fd ["beats", "order"] []) (ver : ∀ (J : GJ) (ds : List D) (q : D → Prop), ds.length = 2 → S_raw_champion J ds q → w_raw_champion J (startE N_raw_champion ds) { nx := fun _ => q .non, rt := fun d _ => q d }) : CalG g P w K mg base 1 "raw_champion" S_raw_champion 2 :=
  cal_D Fu sc_raw_champion hm hb (fun J cd A outer s H E hr => b_raw_champion G  J hr) ver

/-! ### champion: slots 0 beats, 1 order -/
abbrev st_champion : Stmt := topS 21
abbrev N_champion : List Str := ["beats", "order"]
theorem sc_champion : FnScope N_champion ["beats", "order"] (defScope st_champion) := ⟨rfl, rfl, rfl, by decide +kernel, rfl, by decide +kernel, by decide +kernel⟩
def w_champion (J : GJ) : WS := sSeq (sDrop (wCall J S_check_beats 1 (wCons (wOf (wVar 0)) wNil))) (sSeq (sIf (wTNot (wTB (wCall J S_is_order 2 (wCons (wOf (wVar 1)) (wCons (wOf (wPr oLen (wCons (wB 0) wNil))) wNil))))) sNever sNil) (sRet (wCall J S_raw_champion 2 (wCons (wOf (wVar 0)) (wCons (wOf (wVar 1)) wNil)))))
theorem b_champion {g : Bool} {P : Program} {w : World} {K : PySem.W.Frag} {mg : Str → Option Value} {base : Heap} (G : Glo mg) (c_check_beats : CalG g P w K mg base 3 "check_beats" S_check_beats 1) (c_is_order : CalG g P w K mg base 3 "is_order" S_is_order 2) (c_raw_champion : CalG g P w K mg base 1 "raw_champion" S_raw_champion 2) (J : GJ) {fa : Addr} {cd : Value} {A : Around} {outer : List Env} {s : Shared} {H : Hp} {E : XK} (hr : Rm g 3 (A.deeper (envOfC "champion" (defScope st_champion) s.heap.objs.size fa cd))) :
    DSs (cxOf L2.CX0 P w K mg base N_champion "champion" (defScope st_champion) fa cd A outer s H E).nox J (defBody st_champion) (w_champion J) := by
  have nd : N_champion.Nodup := sc_champion.nd
  have u64 := hr.rm.units
  have u65 : (A.deeper (envOfC "champion" (defScope st_champion) s.heap.objs.size fa cd)).units + 65 < cLine := by have := hr.rm.un; omega
  have u1 : (A.deeper (envOfC "champion" (defScope st_champion) s.heap.objs.size fa cd)).units + 1 < cLine := by have := hr.rm.un; omega
  exact (dss_cons (ds_expr (de_call c_check_beats hr (by decide) rfl (da_cons (db_of (de_var 0 (pv 0))) da_nil))) (dss_cons (ds_if (dt_not (dt_val (de_call c_is_order hr (by decide) rfl (da_cons (db_of (de_var 1 (pv 1))) (da_cons (db_of (de_callB cd_len rfl G.b_len PySem.boot_len (da_cons (db_var 0 (pv 0)) da_nil))) da_nil))))) (dss_one ds_never) dss_nil) (dss_one (ds_ret (de_call c_raw_champion hr (by decide) rfl (da_cons (db_of (de_var 0 (pv 0))) (da_cons (db_of (de_var 1 (pv 1))) da_nil)))))))
theorem c_champion {g : Bool} {P : Program} {w : World} {K : PySem.W.Frag} {mg : Str → Option Value} {base : Heap} (G : Glo mg) (c_check_beats : CalG g P w K mg base 3 "check_beats" S_check_beats 1) (c_is_order : CalG g P w K mg base 3 "is_order" S_is_order 2) (c_raw_champion : CalG g P w K mg base 1 "raw_champion" S_raw_champion 2) {f : Addr} {fd : FuncData} (Fu : L2.Fun K "champion" "champion" st_champion f fd) (hm : mg "champion" = some (.ref f)) (hb : Binds K fd ["beats", "order"] []) (ver : ∀ (J : GJ) (ds : List D) (q : D → Prop), ds.length = 2 → S_champion J ds q → w_champion J (startE N_champion ds) { nx := fun _ => q .non, rt := fun d _ => q d }) : CalG g P w K mg base 4 "champion" S_champion 2 :=
  cal_D Fu sc_champion hm hb (fun J cd A outer s H E hr => b_champion G c_check_beats c_is_order c_raw_champion J hr) ver

/-! ### rigged: slots 0 beats, 1 team, 2 order -/
abbrev st_rigged : Stmt := topS 22
abbrev N_rigged : List Str := ["beats", "team", "order"]
theorem sc_rigged : FnScope N_rigged ["beats", "team"] (defScope st_rigged) := ⟨rfl, rfl, rfl, by decide +kernel, rfl, by decide +kernel, by decide +kernel⟩
def w_rigged (J : GJ) : WS := sSeq (sDrop (wCall J S_check_beats 1 (wCons (wOf (wVar 0)) wNil))) (sSeq (sDrop (wCall J S_check_team 2 (wCons (wOf (wPr oLen (wCons (wB 0) wNil))) (wCons (wOf (wVar 1)) wNil)))) (sSeq (sIf (wTB (w2 oGt (wOf (wPr oLen (wCons (wB 0) wNil))) (wOf (wC (.int 6))))) sNever sNil) (sSeq (sFor (wIs (wCall J S_orders_of 1 (wCons (wOf (wLRg (wPr oLen (wCons (wB 0) wNil)))) wNil))) (gN 2) (sIf (wTB (w2 oEq (wOf (wCall J S_raw_champion 2 (wCons (wOf (wVar 0)) (wCons (wOf (wVar 2)) wNil)))) (wB 1))) (sRet (wVar 2)) sNil)) (sRet (wC .non)))))
theorem b_rigged {g : Bool} {P : Program} {w : World} {K : PySem.W.Frag} {mg : Str → Option Value} {base : Heap} (G : Glo mg) (c_check_beats : CalG g P w K mg base 3 "check_beats" S_check_beats 1) (c_check_team : CalG g P w K mg base 3 "check_team" S_check_team 2) (c_orders_of : CalG g P w K mg base 1 "orders_of" S_orders_of 1) (c_raw_champion : CalG g P w K mg base 1 "raw_champion" S_raw_champion 2) (J : GJ) {fa : Addr} {cd : Value} {A : Around} {outer : List Env} {s : Shared} {H : Hp} {E : XK} (hr : Rm g 3 (A.deeper (envOfC "rigged" (defScope st_rigged) s.heap.objs.size fa cd))) :
    DSs (cxOf L2.CX0 P w K mg base N_rigged "rigged" (defScope st_rigged) fa cd A outer s H E).nox J (defBody st_rigged) (w_rigged J) := by
  have nd : N_rigged.Nodup := sc_rigged.nd
  have u64 := hr.rm.units
  have u65 : (A.deeper (envOfC "rigged" (defScope st_rigged) s.heap.objs.size fa cd)).units + 65 < cLine := by have := hr.rm.un; omega
  have u1 : (A.deeper (envOfC "rigged" (defScope st_rigged) s.heap.objs.size fa cd)).units + 1 < cLine := by have := hr.rm.un; omega
  exact (dss_cons (ds_expr (de_call c_check_beats hr (by decide) rfl (da_cons (db_of (de_var 0 (pv 0))) da_nil))) (dss_cons (ds_expr (de_call c_check_team hr (by decide) rfl (da_cons (db_of (de_callB cd_len rfl G.b_len PySem.boot_len (da_cons (db_var 0 (pv 0)) da_nil))) (da_cons (db_of (de_var 1 (pv 1))) da_nil)))) (dss_cons (ds_if (dt_cmp od_gt (db_of (de_callB cd_len rfl G.b_len PySem.boot_len (da_cons (db_var 0 (pv 0)) da_nil))) (db_of (de_gi rfl G.c_MOST_RIGGED)) (by with_unfolding_all rfl)) (dss_one ds_never) dss_nil) (dss_cons (ds_for PassesOwn.never rfl (di_seq (de_call c_orders_of hr (by decide) rfl (da_cons (db_of (de_lrg rfl rfl G.b_list rfl G.b_range (de_callB cd_len rfl G.b_len PySem.boot_len (da_cons (db_var 0 (pv 0)) da_nil)))) da_nil))) (dg_name 2 (L2.pg_name nd rfl (by first | exact .inl rfl | exact .inr rfl))) (dss_one (ds_if (dt_cmp (od_eq u64) (db_of (de_call c_raw_champion hr (by decide) rfl (da_cons (db_of (de_var 0 (pv 0))) (da_cons (db_of (de_var 2 (pv 2))) da_nil)))) (db_var 1 (pv 1)) (by with_unfolding_all rfl)) (dss_one (ds_ret (de_var 2 (pv 2)))) dss_nil))) (dss_one (ds_ret de_non))))))
theorem c_rigged {g : Bool} {P : Program} {w : World} {K : PySem.W.Frag} {mg : Str → Option Value} {base : Heap} (G : Glo mg) (c_check_beats : CalG g P w K mg base 3 "check_beats" S_check_beats 1) (c_check_team : CalG g P w K mg base 3 "check_team" S_check_team 2) (c_orders_of : CalG g P w K mg base 1 "orders_of" S_orders_of 1) (c_raw_champion : CalG g P w K mg base 1 "raw_champion" S_raw_champion 2) {f : Addr} {fd : FuncData} (Fu : L2.Fun K "rigged" "rigged" st_rigged f fd) (hm : mg "rigged" = some (.ref f)) (hb : Binds K fd ["beats", "team"] []) (ver : ∀ (J : GJ) (ds : List D) (q : D → Prop), ds.length = 2 → S_rigged J ds q → w_rigged J (startE N_rigged ds) { nx := fun _ => q .non, rt := fun d _ => q d }) : CalG g P w K mg base 4 "rigged" S_rigged 2 :=
  cal_D Fu sc_rigged hm hb (fun J cd A outer s H E hr => b_rigged G c_check_beats c_check_team c_orders_of c_raw_champion J hr) ver

/-! ### _law_draw: slots 0 hand, 1 many, 2 cell, 3 digit, 4 number -/
abbrev st__law_draw : Stmt := topS 25
abbrev N__law_draw : List Str := ["hand", "many", "cell", "digit", "number"]
theorem sc__law_draw : FnScope N__law_draw ["hand", "many"] (defScope st__law_draw) := ⟨rfl, rfl, rfl, by decide +kernel, rfl, by decide +kernel, by decide +kernel⟩
def w__law_draw (J : GJ) : WS := sSeq (sIf (wTAnd (wTB (w2 oEq (wOf (w2 oIx (wB 0) (wOf (wC (.int 2))))) (wOf (wC (.int 0))))) (wTB (w2 oLt (wOf (w2 oIx (wB 0) (wOf (wC (.int 1))))) (wOf (wPr oLen (wCons (wOf (w2 oIx (wB 0) (wOf (wC (.int 0))))) wNil)))))) (sSeq (sSet 2 (wVal (w2 oIx (wOf (w2 oIx (wB 0) (wOf (wC (.int 0))))) (wOf (w2 oIx (wB 0) (wOf (wC (.int 1)))))))) (sSeq (wSetAt (w2 oAdd (wOf (w2 oIx (wB 0) (wOf (wC (.int 1))))) (wOf (wC (.int 1)))) (gIxAt 0 (wC (.int 1)))) (sSeq (wSetAt (w2 oMod (wOf (wPr oInt (wCons (wOf (w2 oAdd (wOf (w2 oAdd (wOf (w2 oMul (wOf (w2 oIx (wB 0) (wOf (wC (.int 3))))) (wOf (wC (.int 69621))))) (wOf (w2 oMul (wB 2) (wOf (wC (.int 40692))))))) (wOf (wC (.int 41))))) wNil))) (wOf (wC (.int 2147483629)))) (gIxAt 0 (wC (.int 3)))) (sIf (wTB (w2 oGe (wB 2) (wOf (w2 oPow (wOf (wC (.int 10))) (wOf (wC (.int 18))))))) (wSetAt (wVar 2) (gIxAt 0 (wC (.int 2)))) sNil)))) sNil) (sSeq (sIf (wTB (w2 oGt (wOf (w2 oIx (wB 0) (wOf (wC (.int 2))))) (wOf (wC (.int 0))))) (sSeq (sSet 3 (wVal (w2 oMod (wOf (wPr oInt (wCons (wOf (w2 oIx (wB 0) (wOf (wC (.int 2))))) wNil))) (wB 1)))) (sSeq (wSetAt (w2 oDiv (wOf (w2 oIx (wB 0) (wOf (wC (.int 2))))) (wB 1)) (gIxAt 0 (wC (.int 2)))) (sRet (wVar 3)))) sNil) (sSeq (wSetAt (w2 oAdd (wOf (w2 oIx (wB 0) (wOf (wC (.int 4))))) (wOf (wC (.int 1)))) (gIxAt 0 (wC (.int 4)))) (sSeq (sSet 4 (wVal (w2 oMod (wOf (wPr oInt (wCons (wOf (w2 oMul (wOf (wPr oInt (wCons (wOf (w2 oAdd (wOf (w2 oIx (wB 0) (wOf (wC (.int 3))))) (wOf (w2 oMul (wOf (wC (.int 7919))) (wOf (w2 oIx (wB 0) (wOf (wC (.int 4))))))))) wNil))) (wOf (wC (.int 48271))))) wNil))) (wOf (wC (.int 2147483647)))))) (sSeq (sSet 4 (wVal (w2 oMod (wOf (wPr oInt (wCons (wOf (w2 oMul (wB 4) (wOf (w2 oAdd (wOf (w2 oDiv (wB 4) (wOf (wC (.int 1009))))) (wOf (wC (.int 69621))))))) wNil))) (wOf (wC (.int 2147483647)))))) (sSeq (sSet 4 (wVal (w2 oMod (wOf (wPr oInt (wCons (wOf (w2 oMul (wB 4) (wOf (w2 oAdd (wOf (w2 oDiv (wB 4) (wOf (wC (.int 2003))))) (wOf (wC (.int 40692))))))) wNil))) (wOf (wC (.int 2147483399)))))) (sRet (w2 oMod (wOf (wPr oInt (wCons (wOf (w2 oDiv (wB 4) (wOf (wC (.int 16))))) wNil))) (wB 1))))))))
theorem b__law_draw {g : Bool} {P : Program} {w : World} {K : PySem.W.Frag} {mg : Str → Option Value} {base : Heap} (G : Glo mg)  (J : GJ) {fa : Addr} {cd : Value} {A : Around} {outer : List Env} {s : Shared} {H : Hp} {E : XK} (hr : Rm g 0 (A.deeper (envOfC "_law_draw" (defScope st__law_draw) s.heap.objs.size fa cd))) :
    DSs (cxOf L2.CX0 P w K mg base N__law_draw "_law_draw" (defScope st__law_draw) fa cd A outer s H E).nox J (defBody st__law_draw) (w__law_draw J) := by
  have nd : N__law_draw.Nodup := sc__law_draw.nd
  have u64 := hr.rm.units
  have u65 : (A.deeper (envOfC "_law_draw" (defScope st__law_draw) s.heap.objs.size fa cd)).units + 65 < cLine := by have := hr.rm.un; omega
  have u1 : (A.deeper (envOfC "_law_draw" (defScope st__law_draw) s.heap.objs.size fa cd)).units + 1 < cLine := by have := hr.rm.un; omega
  exact (dss_cons (ds_if (dt_of (dw_and (dt_cmp (od_eq u64) (db_of (de_ix od_ix (db_var 0 (pv 0)) (db_of de_int) (fun _ _ => rfl))) (db_of de_int) (by with_unfolding_all rfl)) (dw_and1 (dt_cmp od_lt (db_of (de_ix od_ix (db_var 0 (pv 0)) (db_of de_int) (fun _ _ => rfl))) (db_of (de_callB cd_len rfl G.b_len PySem.boot_len (da_cons (db_of (de_ix od_ix (db_var 0 (pv 0)) (db_of de_int) (fun _ _ => rfl))) da_nil))) (by with_unfolding_all rfl))))) (dss_cons (ds_set nd rfl (by first | exact .inl rfl | exact .inr rfl) (dv_of (de_ix od_ix (db_of (de_ix od_ix (db_var 0 (pv 0)) (db_of de_int) (fun _ _ => rfl))) (db_of (de_ix od_ix (db_var 0 (pv 0)) (db_of de_int) (fun _ _ => rfl))) (fun _ _ => rfl)))) (dss_cons (ds_asg (de_op od_add (db_of (de_ix od_ix (db_var 0 (pv 0)) (db_of de_int) (fun _ _ => rfl))) (db_of de_int)) (dg_ixAt (pv 0) de_int)) (dss_cons (ds_asg (de_op od_mod (db_of (de_callTy cd_int rfl G.b_int PyProof.Rows.boot_int (da_cons (db_of (de_op od_add (db_of (de_op od_add (db_of (de_op od_mul (db_of (de_ix od_ix (db_var 0 (pv 0)) (db_of de_int) (fun _ _ => rfl))) (db_of de_int))) (db_of (de_op od_mul (db_var 2 (pv 2)) (db_of de_int))))) (db_of de_int))) da_nil))) (db_of de_int)) (dg_ixAt (pv 0) de_int)) (dss_one (ds_if (dt_cmp od_ge (db_var 2 (pv 2)) (db_of (de_op od_pow (db_of de_int) (db_of de_int))) (by with_unfolding_all rfl)) (dss_one (ds_asg (de_var 2 (pv 2)) (dg_ixAt (pv 0) de_int))) dss_nil))))) dss_nil) (dss_cons (ds_if (dt_cmp od_gt (db_of (de_ix od_ix (db_var 0 (pv 0)) (db_of de_int) (fun _ _ => rfl))) (db_of de_int) (by with_unfolding_all rfl)) (dss_cons (ds_set nd rfl (by first | exact .inl rfl | exact .inr rfl) (dv_of (de_op od_mod (db_of (de_callTy cd_int rfl G.b_int PyProof.Rows.boot_int (da_cons (db_of (de_ix od_ix (db_var 0 (pv 0)) (db_of de_int) (fun _ _ => rfl))) da_nil))) (db_var 1 (pv 1))))) (dss_cons (ds_asg (de_op od_div (db_of (de_ix od_ix (db_var 0 (pv 0)) (db_of de_int) (fun _ _ => rfl))) (db_var 1 (pv 1))) (dg_ixAt (pv 0) de_int)) (dss_one (ds_ret (de_var 3 (pv 3)))))) dss_nil) (dss_cons (ds_asg (de_op od_add (db_of (de_ix od_ix (db_var 0 (pv 0)) (db_of de_int) (fun _ _ => rfl))) (db_of de_int)) (dg_ixAt (pv 0) de_int)) (dss_cons (ds_set nd rfl (by first | exact .inl rfl | exact .inr rfl) (dv_of (de_op od_mod (db_of (de_callTy cd_int rfl G.b_int PyProof.Rows.boot_int (da_cons (db_of (de_op od_mul (db_of (de_callTy cd_int rfl G.b_int PyProof.Rows.boot_int (da_cons (db_of (de_op od_add (db_of (de_ix od_ix (db_var 0 (pv 0)) (db_of de_int) (fun _ _ => rfl))) (db_of (de_op od_mul (db_of de_int) (db_of (de_ix od_ix (db_var 0 (pv 0)) (db_of de_int) (fun _ _ => rfl))))))) da_nil))) (db_of de_int))) da_nil))) (db_of de_int)))) (dss_cons (ds_set nd rfl (by first | exact .inl rfl | exact .inr rfl) (dv_of (de_op od_mod (db_of (de_callTy cd_int rfl G.b_int PyProof.Rows.boot_int (da_cons (db_of (de_op od_mul (db_var 4 (pv 4)) (db_of (de_op od_add (db_of (de_op od_div (db_var 4 (pv 4)) (db_of de_int))) (db_of de_int))))) da_nil))) (db_of de_int)))) (dss_cons (ds_set nd rfl (by first | exact .inl rfl | exact .inr rfl) (dv_of (de_op od_mod (db_of (de_callTy cd_int rfl G.b_int PyProof.Rows.boot_int (da_cons (db_of (de_op od_mul (db_var 4 (pv 4)) (db_of (de_op od_add (db_of (de_op od_div (db_var 4 (pv 4)) (db_of de_int))) (db_of de_int))))) da_nil))) (db_of de_int)))) (dss_one (ds_ret (de_op od_mod (db_of (de_callTy cd_int rfl G.b_int PyProof.Rows.boot_int (da_cons (db_of (de_op od_div (db_var 4 (pv 4)) (db_of de_int))) da_nil))) (db_var 1 (pv 1)))))))))))

/-! ### _law_any: slots 0 hand, 1 things -/
abbrev st__law_any : Stmt := topS 26
abbrev N__law_any : List Str := ["hand", "things"]
theorem sc__law_any : FnScope N__law_any ["hand", "things"] (defScope st__law_any) := ⟨rfl, rfl, rfl, by decide +kernel, rfl, by decide +kernel, by decide +kernel⟩
def w__law_any (J : GJ) : WS := sRet (w2 oIx (wB 1) (wOf (wCall J S__law_draw 2 (wCons (wOf (wVar 0)) (wCons (wOf (wPr oLen (wCons (wB 1) wNil))) wNil)))))
theorem b__law_any {g : Bool} {P : Program} {w : World} {K : PySem.W.Frag} {mg : Str → Option Value} {base : Heap} (G : Glo mg) (c__law_draw : CalG g P w K mg base 1 "_law_draw" S__law_draw 2) (J : GJ) {fa : Addr} {cd : Value} {A : Around} {outer : List Env} {s : Shared} {H : Hp} {E : XK} (hr : Rm g 1 (A.deeper (envOfC "_law_any" (defScope st__law_any) s.heap.objs.size fa cd))) :
    DSs (cxOf L2.CX0 P w K mg base N__law_any "_law_any" (defScope st__law_any) fa cd A outer s H E).nox J (defBody st__law_any) (w__law_any J) := by
  have nd : N__law_any.Nodup := sc__law_any.nd
  have u64 := hr.rm.units
  have u65 : (A.deeper (envOfC "_law_any" (defScope st__law_any) s.heap.objs.size fa cd)).units + 65 < cLine := by have := hr.rm.un; omega
  have u1 : (A.deeper (envOfC "_law_any" (defScope st__law_any) s.heap.objs.size fa cd)).units + 1 < cLine := by have := hr.rm.un; omega
  exact (dss_one (ds_ret (de_ix od_ix (db_var 1 (pv 1)) (db_of (de_call c__law_draw hr (by decide) rfl (da_cons (db_of (de_var 0 (pv 0))) (da_cons (db_of (de_callB cd_len rfl G.b_len PySem.boot_len (da_cons (db_var 1 (pv 1)) da_nil))) da_nil)))) (fun _ _ => rfl))))
theorem c__law_any {g : Bool} {P : Program} {w : World} {K : PySem.W.Frag} {mg : Str → Option Value} {base : Heap} (G : Glo mg) (c__law_draw : CalG g P w K mg base 1 "_law_draw" S__law_draw 2) {f : Addr} {fd : FuncData} (Fu : L2.Fun K "_law_any" "_law_any" st__law_any f fd) (hm : mg "_law_any" = some (.ref f)) (hb : Binds K fd ["hand", "things"] []) (ver : ∀ (J : GJ) (ds : List D) (q : D → Prop), ds.length = 2 → S__law_any J ds q → w__law_any J (startE N__law_any ds) { nx := fun _ => q .non, rt := fun d _ => q d }) : CalG g P w K mg base 2 "_law_any" S__law_any 2 :=
  cal_D Fu sc__law_any hm hb (fun J cd A outer s H E hr => b__law_any G c__law_draw J hr) ver

/-! ### _law_like: slots 0 told, 1 due -/
abbrev st__law_like : Stmt := topS 27
abbrev N__law_like : List Str := ["told", "due"]
theorem sc__law_like : FnScope N__law_like ["told", "due"] (defScope st__law_like) := ⟨rfl, rfl, rfl, by decide +kernel, rfl, by decide +kernel, by decide +kernel⟩
def w__law_like (J : GJ) : WS := sRet (w2 oEq (wOf (wPr oRepr (wCons (wB 0) wNil))) (wOf (wPr oRepr (wCons (wB 1) wNil))))
theorem b__law_like {P : Program} {w : World} {K : PySem.W.Frag} {mg : Str → Option Value} {base : Heap} (G : Glo mg)  (J : GJ) {fa : Addr} {cd : Value} {A : Around} {outer : List Env} {s : Shared} {H : Hp} {E : XK} (hr : Rm true 0 (A.deeper (envOfC "_law_like" (defScope st__law_like) s.heap.objs.size fa cd))) :
    DSs (cxOf L2.CX0 P w K mg base N__law_like "_law_like" (defScope st__law_like) fa cd A outer s H E).nox J (defBody st__law_like) (w__law_like J) := by
  have nd : N__law_like.Nodup := sc__law_like.nd
  have gd := hr.gd rfl
  have u64 := hr.rm.units
  have u65 : (A.deeper (envOfC "_law_like" (defScope st__law_like) s.heap.objs.size fa cd)).units + 65 < cLine := by have := hr.rm.un; omega
  have u1 : (A.deeper (envOfC "_law_like" (defScope st__law_like) s.heap.objs.size fa cd)).units + 1 < cLine := by have := hr.rm.un; omega
  exact (dss_one (ds_ret (de_cmp (od_eq u64) (db_of (de_callB (cd_repr gd u64) rfl G.b_repr PyProof.Rows.boot_repr (da_cons (db_var 0 (pv 0)) da_nil))) (db_of (de_callB (cd_repr gd u64) rfl G.b_repr PyProof.Rows.boot_repr (da_cons (db_var 1 (pv 1)) da_nil))) (by with_unfolding_all rfl))))
theorem c__law_like {P : Program} {w : World} {K : PySem.W.Frag} {mg : Str → Option Value} {base : Heap} (G : Glo mg)  {f : Addr} {fd : FuncData} (Fu : L2.Fun K "_law_like" "_law_like" st__law_like f fd) (hm : mg "_law_like" = some (.ref f)) (hb : Binds K fd ["told", "due"] []) (ver : ∀ (J : GJ) (ds : List D) (q : D → Prop), ds.length = 2 → S__law_like J ds q → w__law_like J (startE N__law_like ds) { nx := fun _ => q .non, rt := fun d _ => q d }) : CalG true P w K mg base 1 "_law_like" S__law_like 2 :=
  cal_D Fu sc__law_like hm hb (fun J cd A outer s H E hr => b__law_like G  J hr) ver

/-! ### _law_order: slots 0 hand, 1 many, 2 found, 3 one, 4 at -/
abbrev st__law_order : Stmt := topS 28
abbrev N__law_order : List Str := ["hand", "many", "found", "one", "at"]
theorem sc__law_order : FnScope N__law_order ["hand", "many"] (defScope st__law_order) := ⟨rfl, rfl, rfl, by decide +kernel, rfl, by decide +kernel, by decide +kernel⟩
def w__law_order (J : GJ) : WS := sSeq (sSet 2 (wVal (wLst wNil))) (sSeq (sFor (wR1 (wCons (wOf (wVar 1)) wNil)) (gN 3) (sSeq (sSet 4 (wVal (wCall J S__law_draw 2 (wCons (wOf (wVar 0)) (wCons (wOf (w2 oAdd (wOf (wPr oLen (wCons (wB 2) wNil))) (wOf (wC (.int 1))))) wNil))))) (sSet 2 (wVal (w2 oAdd (wOf (w2 oAdd (wOf (wSl oSl (wB 2) wONone (wOSome (wVar 4)))) (wOf (wLst (wCons (wOf (wVar 3)) wNil))))) (wOf (wSl oSl (wB 2) (wOSome (wVar 4)) wONone))))))) (sRet (wPr oTuple (wCons (wB 2) wNil))))
theorem b__law_order {g : Bool} {P : Program} {w : World} {K : PySem.W.Frag} {mg : Str → Option Value} {base : Heap} (G : Glo mg) (c__law_draw : CalG g P w K mg base 1 "_law_draw" S__law_draw 2) (J : GJ) {fa : Addr} {cd : Value} {A : Around} {outer : List Env} {s : Shared} {H : Hp} {E : XK} (hr : Rm g 1 (A.deeper (envOfC "_law_order" (defScope st__law_order) s.heap.objs.size fa cd))) :
    DSs (cxOf L2.CX0 P w K mg base N__law_order "_law_order" (defScope st__law_order) fa cd A outer s H E).nox J (defBody st__law_order) (w__law_order J) := by
  have nd : N__law_order.Nodup := sc__law_order.nd
  have u64 := hr.rm.units
  have u65 : (A.deeper (envOfC "_law_order" (defScope st__law_order) s.heap.objs.size fa cd)).units + 65 < cLine := by have := hr.rm.un; omega
  have u1 : (A.deeper (envOfC "_law_order" (defScope st__law_order) s.heap.objs.size fa cd)).units + 1 < cLine := by have := hr.rm.un; omega
  exact (dss_cons (ds_set nd rfl (by first | exact .inl rfl | exact .inr rfl) (dv_of (de_lst da_nil))) (dss_cons (ds_for PassesOwn.never rfl (di_r1 (by rfl) G.b_range (da_cons (db_of (de_var 1 (pv 1))) da_nil)) (dg_name 3 (L2.pg_name nd rfl (by first | exact .inl rfl | exact .inr rfl))) (dss_cons (ds_set nd rfl (by first | exact .inl rfl | exact .inr rfl) (dv_of (de_call c__law_draw hr (by decide) rfl (da_cons (db_of (de_var 0 (pv 0))) (da_cons (db_of (de_op od_add (db_of (de_callB cd_len rfl G.b_len PySem.boot_len (da_cons (db_var 2 (pv 2)) da_nil))) (db_of de_int))) da_nil))))) (dss_one (ds_set nd rfl (by first | exact .inl rfl | exact .inr rfl) (dv_of (de_op od_add (db_of (de_op od_add (db_of (de_sl od_sl (db_var 2 (pv 2)) do_none (do_some (de_var 4 (pv 4))))) (db_of (de_lst (da_cons (db_of (de_var 3 (pv 3))) da_nil))))) (db_of (de_sl od_sl (db_var 2 (pv 2)) (do_some (de_var 4 (pv 4))) do_none)))))))) (dss_one (ds_ret (de_callTy cd_tuple rfl G.b_tuple PyProof.Rows.boot_tuple (da_cons (db_var 2 (pv 2)) da_nil))))))
theorem c__law_order {g : Bool} {P : Program} {w : World} {K : PySem.W.Frag} {mg : Str → Option Value} {base : Heap} (G : Glo mg) (c__law_draw : CalG g P w K mg base 1 "_law_draw" S__law_draw 2) {f : Addr} {fd : FuncData} (Fu : L2.Fun K "_law_order" "_law_order" st__law_order f fd) (hm : mg "_law_order" = some (.ref f)) (hb : Binds K fd ["hand", "many"] []) (ver : ∀ (J : GJ) (ds : List D) (q : D → Prop), ds.length = 2 → S__law_order J ds q → w__law_order J (startE N__law_order ds) { nx := fun _ => q .non, rt := fun d _ => q d }) : CalG g P w K mg base 2 "_law_order" S__law_order 2 :=
  cal_D Fu sc__law_order hm hb (fun J cd A outer s H E hr => b__law_order G c__law_draw J hr) ver

/-! ### _law_orders: slots 0 many, 1 found, 2 turn, 3 longer, 4 row, 5 one -/
abbrev st__law_orders : Stmt := topS 29
abbrev N__law_orders : List Str := ["many", "found", "turn", "longer", "row", "one"]
theorem sc__law_orders : FnScope N__law_orders ["many"] (defScope st__law_orders) := ⟨rfl, rfl, rfl, by decide +kernel, rfl, by decide +kernel, by decide +kernel⟩
def w__law_orders (J : GJ) : WS := sSeq (sSet 1 (wVal (wLst (wCons (wOf (wTup wNil)) wNil)))) (sSeq (sFor (wR1 (wCons (wOf (wVar 0)) wNil)) (gN 2) (sSeq (sSet 3 (wNewL wNil)) (sSeq (sFor (wIs (wVar 1)) (gN 4) (sDrop (wExt 3 (wLC [5] (wR1 (wCons (wOf (wVar 0)) wNil)) (gN 5) (wTB (w2 oNotIn (wB 5) (wB 4))) (w2 oAdd (wB 4) (wOf (wTup (wCons (wOf (wVar 5)) wNil)))))))) (sSet 1 (wVal (wVar 3)))))) (sRet (wVar 1)))
theorem b__law_orders {g : Bool} {P : Program} {w : World} {K : PySem.W.Frag} {mg : Str → Option Value} {base : Heap} (G : Glo mg)  (J : GJ) {fa : Addr} {cd : Value} {A : Around} {outer : List Env} {s : Shared} {H : Hp} {E : XK} (hr : Rm g 0 (A.deeper (envOfC "_law_orders" (defScope st__law_orders) s.heap.objs.size fa cd))) :
    DSs (cxOf L2.CX0 P w K mg base N__law_orders "_law_orders" (defScope st__law_orders) fa cd A outer s H E).nox J (defBody st__law_orders) (w__law_orders J) := by
  have nd : N__law_orders.Nodup := sc__law_orders.nd
  have u64 := hr.rm.units
  have u65 : (A.deeper (envOfC "_law_orders" (defScope st__law_orders) s.heap.objs.size fa cd)).units + 65 < cLine := by have := hr.rm.un; omega
  have u1 : (A.deeper (envOfC "_law_orders" (defScope st__law_orders) s.heap.objs.size fa cd)).units + 1 < cLine := by have := hr.rm.un; omega
  exact (dss_cons (ds_set nd rfl (by first | exact .inl rfl | exact .inr rfl) (dv_of (de_lst (da_cons (db_of (de_tup da_nil)) da_nil)))) (dss_cons (ds_for PassesOwn.never rfl (di_r1 (by rfl) G.b_range (da_cons (db_of (de_var 0 (pv 0))) da_nil)) (dg_name 2 (L2.pg_name nd rfl (by first | exact .inl rfl | exact .inr rfl))) (dss_cons (ds_set nd rfl (by first | exact .inl rfl | exact .inr rfl) (dv_lst da_nil)) (dss_cons (ds_for PassesOwn.never rfl (di_seq (de_var 1 (pv 1))) (dg_name 4 (L2.pg_name nd rfl (by first | exact .inl rfl | exact .inr rfl))) (dss_one (ds_expr (de_ext (pv 3) (de_lc rfl nd (di_r1 (by rfl) G.b_range (da_cons (db_of (de_var 0 (pv 0))) da_nil)) (blkOk_by (own := [("one", 5)]) (by kernel_rfl)) (fun _ _ _ _ _ => (dg_name 5 (L2.pg_name nd rfl (by first | exact .inl rfl | exact .inr rfl)))) (fun _ _ _ _ _ => dts_one (dt_cmp (od_notIn u65) (db_var 5 (pv 5)) (db_var 4 (pv 4)) (by with_unfolding_all rfl))) (fun _ _ _ _ _ => (de_op od_add (db_var 4 (pv 4)) (db_of (de_tup (da_cons (db_of (de_var 5 (pv 5))) da_nil)))))))))) (dss_one (ds_set nd rfl (by first | exact .inl rfl | exact .inr rfl) (dv_of (de_var 3 (pv 3)))))))) (dss_one (ds_ret (de_var 1 (pv 1))))))
theorem c__law_orders {g : Bool} {P : Program} {w : World} {K : PySem.W.Frag} {mg : Str → Option Value} {base : Heap} (G : Glo mg)  {f : Addr} {fd : FuncData} (Fu : L2.Fun K "_law_orders" "_law_orders" st__law_orders f fd) (hm : mg "_law_orders" = some (.ref f)) (hb : Binds K fd ["many"] []) (ver : ∀ (J : GJ) (ds : List D) (q : D → Prop), ds.length = 1 → S__law_orders J ds q → w__law_orders J (startE N__law_orders ds) { nx := fun _ => q .non, rt := fun d _ => q d }) : CalG g P w K mg base 1 "_law_orders" S__law_orders 1 :=
  cal_D Fu sc__law_orders hm hb (fun J cd A outer s H E hr => b__law_orders G  J hr) ver

/-! ### _law_beats: slots 0 hand, 1 many, 2 kind, 3 told, 4 one, 5 other, 6 flag -/
abbrev st__law_beats : Stmt := topS 30
abbrev N__law_beats : List Str := ["hand", "many", "kind", "told", "one", "other", "flag"]
theorem sc__law_beats : FnScope N__law_beats ["hand"] (defScope st__law_beats) := ⟨rfl, rfl, rfl, by decide +kernel, rfl, by decide +kernel, by decide +kernel⟩
def w__law_beats (J : GJ) : WS := sSeq (sPar 1 2 (wVal (w2 oAdd (wOf (wC (.int 1))) (wOf (wCall J S__law_draw 2 (wCons (wOf (wVar 0)) (wCons (wOf (wC (.int 8))) wNil)))))) (wVal (wCall J S__law_any 2 (wCons (wOf (wVar 0)) (wCons (wOf (wLst (wCons (wOf (wC (.int 0))) (wCons (wOf (wC (.int 1))) (wCons (wOf (wC (.int 2))) (wCons (wOf (wC (.int 3))) wNil)))))) wNil))))) (sSeq (sSet 3 wNewT) (sSeq (sFor (wR1 (wCons (wOf (wVar 1)) wNil)) (gN 4) (sFor (wR1 (wCons (wOf (wVar 4)) wNil)) (gN 5) (sSeq (sSet 6 (wVal (w2 oIx (wOf (wLst (wCons (wOf (w2 oEq (wOf (wCall J S__law_draw 2 (wCons (wOf (wVar 0)) (wCons (wOf (wC (.int 2))) wNil)))) (wOf (wC (.int 0))))) (wCons (wOf (wC (.bl false))) (wCons (wOf (wC (.bl true))) (wCons (wOf (w2 oEq (wOf (w2 oMod (wOf (wPr oInt (wCons (wOf (w2 oSub (wB 4) (wB 5))) wNil))) (wOf (wC (.int 2))))) (wOf (wC (.int 0))))) wNil)))))) (wB 2)))) (sSeq (sSet 6 (wVal (wIf (wTB (w2 oEq (wOf (wCall J S__law_draw 2 (wCons (wOf (wVar 0)) (wCons (wOf (wC (.int 9))) wNil)))) (wOf (wC (.int 0))))) (wNot (wVar 6)) (wVar 6)))) (wSetAt (wTup (wCons (wOf (wVar 6)) (wCons (wOf (wNot (wVar 6))) wNil))) (gTup 2 (gCons (gDt 3 (wKeys (wCons (wOf (wVar 4)) (wCons (wOf (wVar 5)) wNil)))) (gCons (gDt 3 (wKeys (wCons (wOf (wVar 5)) (wCons (wOf (wVar 4)) wNil)))) gNil)))))))) (sRet (wPr oTuple (wCons (wOf (wLC [4] (wR1 (wCons (wOf (wVar 1)) wNil)) (gN 4) wYes (wPr oTuple (wCons (wOf (wLC [5] (wR1 (wCons (wOf (wVar 1)) wNil)) (gN 5) wYes (wGet2t 3 (wKeys (wCons (wOf (wVar 4)) (wCons (wOf (wVar 5)) wNil))) (wC (.bl false))))) wNil)))) wNil)))))
theorem b__law_beats {g : Bool} {P : Program} {w : World} {K : PySem.W.Frag} {mg : Str → Option Value} {base : Heap} (G : Glo mg) (c__law_draw : CalG g P w K mg base 1 "_law_draw" S__law_draw 2) (c__law_any : CalG g P w K mg base 2 "_law_any" S__law_any 2) (J : GJ) {fa : Addr} {cd : Value} {A : Around} {outer : List Env} {s : Shared} {H : Hp} {E : XK} (hr : Rm g 2 (A.deeper (envOfC "_law_beats" (defScope st__law_beats) s.heap.objs.size fa cd))) :
    DSs (cxOf L2.CX0 P w K mg base N__law_beats "_law_beats" (defScope st__law_beats) fa cd A outer s H E).nox J (defBody st__law_beats) (w__law_beats J) := by
  have nd : N__law_beats.Nodup := sc__law_beats.nd
  have u64 := hr.rm.units
  have u65 : (A.deeper (envOfC "_law_beats" (defScope st__law_beats) s.heap.objs.size fa cd)).units + 65 < cLine := by have := hr.rm.un; omega
  have u1 : (A.deeper (envOfC "_law_beats" (defScope st__law_beats) s.heap.objs.size fa cd)).units + 1 < cLine := by have := hr.rm.un; omega
  exact (dss_cons (ds_parT rfl nd (by decide) (L2.pg_name nd rfl (by first | exact .inl rfl | exact .inr rfl)) (L2.pg_name nd rfl (by first | exact .inl rfl | exact .inr rfl)) (dv_of (de_op od_add (db_of de_int) (db_of (de_call c__law_draw hr (by decide) rfl (da_cons (db_of (de_var 0 (pv 0))) (da_cons (db_of de_int) da_nil)))))) (dv_of (de_call c__law_any hr (by decide) rfl (da_cons (db_of (de_var 0 (pv 0))) (da_cons (db_of (de_lst (da_cons (db_of de_int) (da_cons (db_of de_int) (da_cons (db_of de_int) (da_cons (db_of de_int) da_nil)))))) da_nil))))) (dss_cons (ds_set nd rfl (by first | exact .inl rfl | exact .inr rfl) dv_dT) (dss_cons (ds_for PassesOwn.never rfl (di_r1 (by rfl) G.b_range (da_cons (db_of (de_var 1 (pv 1))) da_nil)) (dg_name 4 (L2.pg_name nd rfl (by first | exact .inl rfl | exact .inr rfl))) (dss_one (ds_for PassesOwn.never rfl (di_r1 (by rfl) G.b_range (da_cons (db_of (de_var 4 (pv 4))) da_nil)) (dg_name 5 (L2.pg_name nd rfl (by first | exact .inl rfl | exact .inr rfl))) (dss_cons (ds_set nd rfl (by first | exact .inl rfl | exact .inr rfl) (dv_of (de_ix od_ix (db_of (de_lst (da_cons (db_of (de_cmp (od_eq u64) (db_of (de_call c__law_draw hr (by decide) rfl (da_cons (db_of (de_var 0 (pv 0))) (da_cons (db_of de_int) da_nil)))) (db_of de_int) (by with_unfolding_all rfl))) (da_cons (db_of de_bl) (da_cons (db_of de_bl) (da_cons (db_of (de_cmp (od_eq u64) (db_of (de_op od_mod (db_of (de_callTy cd_int rfl G.b_int PyProof.Rows.boot_int (da_cons (db_of (de_op od_sub (db_var 4 (pv 4)) (db_var 5 (pv 5)))) da_nil))) (db_of de_int))) (db_of de_int) (by with_unfolding_all rfl))) da_nil)))))) (db_var 2 (pv 2)) (fun _ _ => rfl)))) (dss_cons (ds_set nd rfl (by first | exact .inl rfl | exact .inr rfl) (dv_of (de_if (dt_cmp (od_eq u64) (db_of (de_call c__law_draw hr (by decide) rfl (da_cons (db_of (de_var 0 (pv 0))) (da_cons (db_of de_int) da_nil)))) (db_of de_int) (by with_unfolding_all rfl)) (de_not (de_var 6 (pv 6))) (de_var 6 (pv 6))))) (dss_one (ds_asg (de_tup (da_cons (db_of (de_var 6 (pv 6))) (da_cons (db_of (de_not (de_var 6 (pv 6)))) da_nil))) (dg_tup rfl (dgs_cons (dg_dt u1 (pv 3) (dk_tup (da_cons (db_of (de_var 4 (pv 4))) (da_cons (db_of (de_var 5 (pv 5))) da_nil)))) (dgs_cons (dg_dt u1 (pv 3) (dk_tup (da_cons (db_of (de_var 5 (pv 5))) (da_cons (db_of (de_var 4 (pv 4))) da_nil)))) dgs_nil)))))))))) (dss_one (ds_ret (de_callTy cd_tuple rfl G.b_tuple PyProof.Rows.boot_tuple (da_cons (db_of (de_lc rfl nd (di_r1 (by rfl) G.b_range (da_cons (db_of (de_var 1 (pv 1))) da_nil)) (blkOk_by (own := [("one", 4)]) (by kernel_rfl)) (fun _ _ _ _ _ => (dg_name 4 (L2.pg_name nd rfl (by first | exact .inl rfl | exact .inr rfl)))) (fun _ _ _ _ _ => dts_nil) (fun _ _ _ _ _ => (de_callTy cd_tuple rfl G.b_tuple PyProof.Rows.boot_tuple (da_cons (db_of (de_lc rfl nd (di_r1 (by rfl) G.b_range (da_cons (db_of (de_var 1 (pv 1))) da_nil)) (blkOk_by (own := [("other", 5)]) (by kernel_rfl)) (fun _ _ _ _ _ => (dg_name 5 (L2.pg_name nd rfl (by first | exact .inl rfl | exact .inr rfl)))) (fun _ _ _ _ _ => dts_nil) (fun _ _ _ _ _ => (de_get2t u1 (pv 3) (dk_tup (da_cons (db_of (de_var 4 (pv 4))) (da_cons (db_of (de_var 5 (pv 5))) da_nil))) de_bl ⟨rfl, rfl, rfl, rfl⟩)))) da_nil))))) da_nil)))))))
theorem c__law_beats {g : Bool} {P : Program} {w : World} {K : PySem.W.Frag} {mg : Str → Option Value} {base : Heap} (G : Glo mg) (c__law_draw : CalG g P w K mg base 1 "_law_draw" S__law_draw 2) (c__law_any : CalG g P w K mg base 2 "_law_any" S__law_any 2) {f : Addr} {fd : FuncData} (Fu : L2.Fun K "_law_beats" "_law_beats" st__law_beats f fd) (hm : mg "_law_beats" = some (.ref f)) (hb : Binds K fd ["hand"] []) (ver : ∀ (J : GJ) (ds : List D) (q : D → Prop), ds.length = 1 → S__law_beats J ds q → w__law_beats J (startE N__law_beats ds) { nx := fun _ => q .non, rt := fun d _ => q d }) : CalG g P w K mg base 3 "_law_beats" S__law_beats 1 :=
  cal_D Fu sc__law_beats hm hb (fun J cd A outer s H E hr => b__law_beats G c__law_draw c__law_any J hr) ver

/-! ### _law_kings: slots 0 beats, 1 found, 2 every, 3 one, 4 near, 5 other, 6 far, 7 by -/
abbrev st__law_kings : Stmt := topS 31
abbrev N__law_kings : List Str := ["beats", "found", "every", "one", "near", "other", "far", "by"]
theorem sc__law_kings : FnScope N__law_kings ["beats"] (defScope st__law_kings) := ⟨rfl, rfl, rfl, by decide +kernel, rfl, by decide +kernel, by decide +kernel⟩
def w__law_kings (J : GJ) : WS := sSeq (sPar 1 2 (wNewL wNil) (wVal (wLRg (wPr oLen (wCons (wB 0) wNil))))) (sSeq (sFor (wIs (wVar 2)) (gN 3) (sSeq (sSet 4 (wVal (wLC [5] (wIs (wVar 2)) (gN 5) (wTB (w2 oIx (wOf (w2 oIx (wB 0) (wB 3))) (wB 5))) (wVar 5)))) (sSeq (sSet 6 (wVal (wLC [5] (wIs (wVar 2)) (gN 5) (wTB (wPr oAny (wCons (wOf (wLC [7] (wIs (wVar 4)) (gN 7) wYes (w2 oIx (wOf (w2 oIx (wB 0) (wB 7))) (wB 5)))) wNil))) (wVar 5)))) (sDrop (wExt 1 (wIf (wTB (wPr oAll (wCons (wOf (wLC [5] (wIs (wVar 2)) (gN 5) wYes (wOr (w2 oEq (wB 5) (wB 3)) (wOr (w2 oIn (wB 5) (wB 4)) (w2 oIn (wB 5) (wB 6)))))) wNil))) (wLst (wCons (wOf (wVar 3)) wNil)) (wLst wNil))))))) (sRet (wPr oTuple (wCons (wB 1) wNil))))
theorem b__law_kings {g : Bool} {P : Program} {w : World} {K : PySem.W.Frag} {mg : Str → Option Value} {base : Heap} (G : Glo mg)  (J : GJ) {fa : Addr} {cd : Value} {A : Around} {outer : List Env} {s : Shared} {H : Hp} {E : XK} (hr : Rm g 0 (A.deeper (envOfC "_law_kings" (defScope st__law_kings) s.heap.objs.size fa cd))) :
    DSs (cxOf L2.CX0 P w K mg base N__law_kings "_law_kings" (defScope st__law_kings) fa cd A outer s H E).nox J (defBody st__law_kings) (w__law_kings J) := by
  have nd : N__law_kings.Nodup := sc__law_kings.nd
  have u64 := hr.rm.units
  have u65 : (A.deeper (envOfC "_law_kings" (defScope st__law_kings) s.heap.objs.size fa cd)).units + 65 < cLine := by have := hr.rm.un; omega
  have u1 : (A.deeper (envOfC "_law_kings" (defScope st__law_kings) s.heap.objs.size fa cd)).units + 1 < cLine := by have := hr.rm.un; omega
  exact (dss_cons (ds_par rfl nd rfl rfl (by decide) rfl rfl (dv_lst da_nil) (dv_of (de_lrg rfl rfl G.b_list rfl G.b_range (de_callB cd_len rfl G.b_len PySem.boot_len (da_cons (db_var 0 (pv 0)) da_nil)))) rfl) (dss_cons (ds_for PassesOwn.never rfl (di_seq (de_var 2 (pv 2))) (dg_name 3 (L2.pg_name nd rfl (by first | exact .inl rfl | exact .inr rfl))) (dss_cons (ds_set nd rfl (by first | exact .inl rfl | exact .inr rfl) (dv_of (de_lc rfl nd (di_seq (de_var 2 (pv 2))) (blkOk_by (own := [("other", 5)]) (by kernel_rfl)) (fun _ _ _ _ _ => (dg_name 5 (L2.pg_name nd rfl (by first | exact .inl rfl | exact .inr rfl)))) (fun _ _ _ _ _ => dts_one (dt_val (de_ix od_ix (db_of (de_ix od_ix (db_var 0 (pv 0)) (db_var 3 (pv 3)) (fun _ _ => rfl))) (db_var 5 (pv 5)) (fun _ _ => rfl)))) (fun _ _ _ _ _ => (de_var 5 (pv 5)))))) (dss_cons (ds_set nd rfl (by first | exact .inl rfl | exact .inr rfl) (dv_of (de_lc rfl nd (di_seq (de_var 2 (pv 2))) (blkOk_by (own := [("other", 5)]) (by kernel_rfl)) (fun _ _ _ _ _ => (dg_name 5 (L2.pg_name nd rfl (by first | exact .inl rfl | exact .inr rfl)))) (fun _ _ _ _ _ => dts_one (dt_val (de_callB (cd_any rfl) rfl G.b_any PyProof.Rows.boot_any (da_cons (db_of (de_lc rfl nd (di_seq (de_var 4 (pv 4))) (blkOk_by (own := [("by", 7)]) (by kernel_rfl)) (fun _ _ _ _ _ => (dg_name 7 (L2.pg_name nd rfl (by first | exact .inl rfl | exact .inr rfl)))) (fun _ _ _ _ _ => dts_nil) (fun _ _ _ _ _ => (de_ix od_ix (db_of (de_ix od_ix (db_var 0 (pv 0)) (db_var 7 (pv 7)) (fun _ _ => rfl))) (db_var 5 (pv 5)) (fun _ _ => rfl))))) da_nil)))) (fun _ _ _ _ _ => (de_var 5 (pv 5)))))) (dss_one (ds_expr (de_ext (pv 1) (de_if (dt_val (de_callB (cd_all rfl) rfl G.b_all PyProof.Rows.boot_all (da_cons (db_of (de_lc rfl nd (di_seq (de_var 2 (pv 2))) (blkOk_by (own := [("other", 5)]) (by kernel_rfl)) (fun _ _ _ _ _ => (dg_name 5 (L2.pg_name nd rfl (by first | exact .inl rfl | exact .inr rfl)))) (fun _ _ _ _ _ => dts_nil) (fun _ _ _ _ _ => (de_or (de_cmp (od_eq u64) (db_var 5 (pv 5)) (db_var 3 (pv 3)) (by with_unfolding_all rfl)) (de_or (de_cmp (od_in u65) (db_var 5 (pv 5)) (db_var 4 (pv 4)) (by with_unfolding_all rfl)) (de_one (de_cmp (od_in u65) (db_var 5 (pv 5)) (db_var 6 (pv 6)) (by with_unfolding_all rfl)))))))) da_nil))) (de_lst (da_cons (db_of (de_var 3 (pv 3))) da_nil)) (de_lst da_nil)))))))) (dss_one (ds_ret (de_callTy cd_tuple rfl G.b_tuple PyProof.Rows.boot_tuple (da_cons (db_var 1 (pv 1)) da_nil))))))
theorem c__law_kings {g : Bool} {P : Program} {w : World} {K : PySem.W.Frag} {mg : Str → Option Value} {base : Heap} (G : Glo mg)  {f : Addr} {fd : FuncData} (Fu : L2.Fun K "_law_kings" "_law_kings" st__law_kings f fd) (hm : mg "_law_kings" = some (.ref f)) (hb : Binds K fd ["beats"] []) (ver : ∀ (J : GJ) (ds : List D) (q : D → Prop), ds.length = 1 → S__law_kings J ds q → w__law_kings J (startE N__law_kings ds) { nx := fun _ => q .non, rt := fun d _ => q d }) : CalG g P w K mg base 1 "_law_kings" S__law_kings 1 :=
  cal_D Fu sc__law_kings hm hb (fun J cd A outer s H E hr => b__law_kings G  J hr) ver

/-! ### _law_champion: slots 0 beats, 1 order, 2 left, 3 later, 4 at, 5 pair -/
abbrev st__law_champion : Stmt := topS 32
abbrev N__law_champion : List Str := ["beats", "order", "left", "later", "at", "pair"]
theorem sc__law_champion : FnScope N__law_champion ["beats", "order"] (defScope st__law_champion) := ⟨rfl, rfl, rfl, by decide +kernel, rfl, by decide +kernel, by decide +kernel⟩
def w__law_champion (J : GJ) : WS := sSeq (sSet 2 (wVal (wPr oList (wCons (wB 1) wNil)))) (sSeq (sWhile (wTB (w2 oGt (wOf (wPr oLen (wCons (wB 2) wNil))) (wOf (wC (.int 1))))) (sSeq (sSet 3 (wNewL wNil)) (sSeq (sFor (wR3 (wCons (wOf (wC (.int 0))) (wCons (wOf (wPr oLen (wCons (wB 2) wNil))) (wCons (wOf (wC (.int 2))) wNil)))) (gN 4) (sSeq (sSet 5 (wVal (wSl oSl (wB 2) (wOSome (wVar 4)) (wOSome (w2 oAdd (wB 4) (wOf (wC (.int 2)))))))) (sDrop (wApp 3 (wIf (wTOr (wTB (w2 oEq (wOf (wPr oLen (wCons (wB 5) wNil))) (wOf (wC (.int 1))))) (wTB (w2 oIx (wOf (w2 oIx (wB 0) (wOf (w2 oIx (wB 5) (wOf (wC (.int 0))))))) (wOf (w2 oIx (wB 5) (wOf (wC (.int 1)))))))) (w2 oIx (wB 5) (wOf (wC (.int 0)))) (w2 oIx (wB 5) (wOf (wC (.int 1))))))))) (sSet 2 (wVal (wVar 3)))))) (sRet (w2 oIx (wB 2) (wOf (wC (.int 0))))))
theorem b__law_champion {g : Bool} {P : Program} {w : World} {K : PySem.W.Frag} {mg : Str → Option Value} {base : Heap} (G : Glo mg)  (J : GJ) {fa : Addr} {cd : Value} {A : Around} {outer : List Env} {s : Shared} {H : Hp} {E : XK} (hr : Rm g 0 (A.deeper (envOfC "_law_champion" (defScope st__law_champion) s.heap.objs.size fa cd))) :
    DSs (cxOf L2.CX0 P w K mg base N__law_champion "_law_champion" (defScope st__law_champion) fa cd A outer s H E).nox J (defBody st__law_champion) (w__law_champion J) := by
  have nd : N__law_champion.Nodup := sc__law_champion.nd
  have u64 := hr.rm.units
  have u65 : (A.deeper (envOfC "_law_champion" (defScope st__law_champion) s.heap.objs.size fa cd)).units + 65 < cLine := by have := hr.rm.un; omega
  have u1 : (A.deeper (envOfC "_law_champion" (defScope st__law_champion) s.heap.objs.size fa cd)).units + 1 < cLine := by have := hr.rm.un; omega
  exact (dss_cons (ds_set nd rfl (by first | exact .inl rfl | exact .inr rfl) (dv_of (de_callTy cd_list rfl G.b_list PyProof.Rows.boot_list (da_cons (db_var 1 (pv 1)) da_nil)))) (dss_cons (ds_while PassesOwn.never (dt_cmp od_gt (db_of (de_callB cd_len rfl G.b_len PySem.boot_len (da_cons (db_var 2 (pv 2)) da_nil))) (db_of de_int) (by with_unfolding_all rfl)) (dss_cons (ds_set nd rfl (by first | exact .inl rfl | exact .inr rfl) (dv_lst da_nil)) (dss_cons (ds_for PassesOwn.never rfl (di_r3 (by rfl) G.b_range (da_cons (db_of de_int) (da_cons (db_of (de_callB cd_len rfl G.b_len PySem.boot_len (da_cons (db_var 2 (pv 2)) da_nil))) (da_cons (db_of de_int) da_nil)))) (dg_name 4 (L2.pg_name nd rfl (by first | exact .inl rfl | exact .inr rfl))) (dss_cons (ds_set nd rfl (by first | exact .inl rfl | exact .inr rfl) (dv_of (de_sl od_sl (db_var 2 (pv 2)) (do_some (de_var 4 (pv 4))) (do_some (de_op od_add (db_var 4 (pv 4)) (db_of de_int)))))) (dss_one (ds_expr (de_app (pv 3) (de_if (dt_of (dw_or (dt_cmp (od_eq u64) (db_of (de_callB cd_len rfl G.b_len PySem.boot_len (da_cons (db_var 5 (pv 5)) da_nil))) (db_of de_int) (by with_unfolding_all rfl)) (dw_or1 (dt_val (de_ix od_ix (db_of (de_ix od_ix (db_var 0 (pv 0)) (db_of (de_ix od_ix (db_var 5 (pv 5)) (db_of de_int) (fun _ _ => rfl))) (fun _ _ => rfl))) (db_of (de_ix od_ix (db_var 5 (pv 5)) (db_of de_int) (fun _ _ => rfl))) (fun _ _ => rfl)))))) (de_ix od_ix (db_var 5 (pv 5)) (db_of de_int) (fun _ _ => rfl)) (de_ix od_ix (db_var 5 (pv 5)) (db_of de_int) (fun _ _ => rfl)))))))) (dss_one (ds_set nd rfl (by first | exact .inl rfl | exact .inr rfl) (dv_of (de_var 3 (pv 3)))))))) (dss_one (ds_ret (de_ix od_ix (db_var 2 (pv 2)) (db_of de_int) (fun _ _ => rfl))))))
theorem c__law_champion {g : Bool} {P : Program} {w : World} {K : PySem.W.Frag} {mg : Str → Option Value} {base : Heap} (G : Glo mg)  {f : Addr} {fd : FuncData} (Fu : L2.Fun K "_law_champion" "_law_champion" st__law_champion f fd) (hm : mg "_law_champion" = some (.ref f)) (hb : Binds K fd ["beats", "order"] []) (ver : ∀ (J : GJ) (ds : List D) (q : D → Prop), ds.length = 2 → S__law_champion J ds q → w__law_champion J (startE N__law_champion ds) { nx := fun _ => q .non, rt := fun d _ => q d }) : CalG g P w K mg base 1 "_law_champion" S__law_champion 2 :=
  cal_D Fu sc__law_champion hm hb (fun J cd A outer s H E hr => b__law_champion G  J hr) ver

end DL

/-! V0: lemmas for plain proofs: comprehensions and loops over an environment that stays. -/
namespace DL
open PySem PySem.Spec PyProof.Rows L2

theorem wipe_set {e : En} {i : Nat} (h : e[i]? = some .no) (s : Sl) : wipeE (e.set i s) [i] = e := by
  simp only [wipeE, List.set_set]
  obtain ⟨hl, h⟩ := List.getElem?_eq_some_iff.mp h
  rw [← h, List.set_getElem_self]
/-- one name; the block leaves its surroundings alone -/
theorem lc_map {α : Type} {i : Nat} {tt : WT} {te : WE} {fin : List D → En → Prop} {e : En} (f y : α → D) (p : α → Bool) (he : e[i]? = some .no) :
    ∀ (xs : List α) (acc : List D), (∀ x ∈ xs, ∀ k : Bool → En → Prop, k (p x) (e.set i (.val (f x))) → tt (e.set i (.val (f x))) k) →
    (∀ x ∈ xs, p x = true → ∀ k : D → En → Prop, k (y x) (e.set i (.val (f x))) → te (e.set i (.val (f x))) k) → acc.length + xs.length ≤ sizeLine → fin (acc ++ (xs.filter p).map y) e → lcGo [i] (gN i) tt te fin (xs.map f) acc e
  | [], acc, _, _, _, hf => by simpa [lcGo] using hf
  | x :: xs, acc, ht, hy, hl, hf => by
    simp only [List.length_cons] at hl
    simp only [List.map_cons, lcGo, gN]
    refine ht x List.mem_cons_self _ ?_
    cases hp : p x with
    | true =>
      rw [if_pos rfl]
      refine hy x List.mem_cons_self hp _ ⟨by omega, ?_⟩
      rw [wipe_set he]
      refine lc_map f y p he xs _ (fun z hz => ht z (List.mem_cons_of_mem _ hz)) (fun z hz => hy z (List.mem_cons_of_mem _ hz)) (by simp; omega) ?_
      simpa [List.filter_cons, hp] using hf
    | false =>
      rw [if_neg (by simp)]
      rw [wipe_set he]
      refine lc_map f y p he xs _ (fun z hz => ht z (List.mem_cons_of_mem _ hz)) (fun z hz => hy z (List.mem_cons_of_mem _ hz)) (by omega) ?_
      simpa [List.filter_cons, hp] using hf
/-- the same without a condition -/
theorem lc_map1 {α : Type} {i : Nat} {te : WE} {fin : List D → En → Prop} {e : En} (f y : α → D) (he : e[i]? = some .no) (xs : List α) 
    (hy : ∀ x ∈ xs, ∀ k : D → En → Prop, k (y x) (e.set i (.val (f x))) → te (e.set i (.val (f x))) k) (hl : xs.length ≤ sizeLine) (hf : fin (xs.map y) e) : lcGo [i] (gN i) wYes te fin (xs.map f) [] e :=
  lc_map f y (fun _ => true) he xs [] (fun x _ k h => h) (fun x hx _ => hy x hx) (by simpa using hl) (by rw [List.filter_eq_self.mpr (by simp)]; simpa using hf)
theorem rgD_nat (n : Nat) : rgD 0 1 n = (List.range n).map fun i => D.int (i : Nat) := by
  unfold rgD
  exact List.map_congr_left fun i _ => by simp
theorem natD_length (l : List Nat) : (natD l).length = l.length := by simp [natD]
theorem small_sz {n : Nat} (h : n ≤ 16777216) : n ≤ sizeLine := by rw [sizeLine_eq]; exact h
theorem okEA_natD (k : Nat) (l : List Nat) : okEA k (natD l) = true := by
  induction l with
  | nil => rfl
  | cons x xs ih => simpa [natD, okEA, okE] using ih
theorem inD_natD (x : Nat) (l : List Nat) : inD (.int (x : Nat)) (natD l) = l.contains x := by
  induction l with
  | nil => rfl
  | cons y ys ih =>
    have e : inD (.int (x : Nat)) (natD (y :: ys)) = (eqD (.int (y : Nat)) (.int (x : Nat)) || inD (.int (x : Nat)) (natD ys)) := rfl
    rw [e, ih, List.contains_cons]
    congr 1
    simp only [eqD]
    rw [Bool.eq_iff_iff, beq_iff_eq, beq_iff_eq]
    omega
theorem atI_map {α : Type} {f : α → D} {xs : List α} {i : Nat} {x : α} (h : xs[i]? = some x) : atI (xs.map f) (i : Nat) = some (f x) := atI_nat (by simp [h])
theorem atI_range {f : Nat → D} {n i : Nat} (h : i < n) : atI ((List.range n).map f) (i : Nat) = some (f i) := atI_map (by rw [List.getElem?_range h])
/-! two clauses -/
theorem lc2_in {β : Type} {vs : List Nat} {j : Nat} {tt1 : WT} {te : WE} {nx : List D → En → Prop} {e : En} (h y : β → D) (p : β → Bool) (he : e[j]? = some .no) :
    ∀ (xs : List β) (acc : List D), (∀ x ∈ xs, ∀ k : Bool → En → Prop, k (p x) (e.set j (.val (h x))) → tt1 (e.set j (.val (h x))) k) →
    (∀ x ∈ xs, p x = true → ∀ k : D → En → Prop, k (y x) (e.set j (.val (h x))) → te (e.set j (.val (h x))) k) → acc.length + xs.length ≤ sizeLine → nx (acc ++ (xs.filter p).map y) e → lc2In vs [j] (gN j) tt1 te nx (xs.map h) acc e
  | [], acc, _, _, _, hf => by simpa [lc2In] using hf
  | x :: xs, acc, ht, hy, hl, hf => by
    simp only [List.length_cons] at hl
    simp only [List.map_cons, lc2In, gN]
    refine ht x List.mem_cons_self _ ?_
    cases hp : p x with
    | true =>
      rw [if_pos rfl]
      refine hy x List.mem_cons_self hp _ ⟨by omega, ?_⟩
      rw [wipe_set he]
      refine lc2_in h y p he xs _ (fun z hz => ht z (List.mem_cons_of_mem _ hz)) (fun z hz => hy z (List.mem_cons_of_mem _ hz)) (by simp; omega) ?_
      simpa [List.filter_cons, hp] using hf
    | false =>
      rw [if_neg (by simp)]
      rw [wipe_set he]
      refine lc2_in h y p he xs _ (fun z hz => ht z (List.mem_cons_of_mem _ hz)) (fun z hz => hy z (List.mem_cons_of_mem _ hz)) (by omega) ?_
      simpa [List.filter_cons, hp] using hf
theorem wipe_no {e : En} {j : Nat} (h : e[j]? = some .no) : wipeE e [j] = e := by
  simp only [wipeE]
  obtain ⟨hl, h⟩ := List.getElem?_eq_some_iff.mp h
  rw [← h, List.set_getElem_self]
theorem lc2_map {α β : Type} {i j : Nat} {wi1 : WI} {tt1 : WT} {te : WE} {fin : List D → En → Prop} {e : En} (hij : i ≠ j) (f : α → D) (ys : α → List β) (h : α → β → D) (p : α → β → Bool) (y : α → β → D) (hi : e[i]? = some .no) (hj : e[j]? = some .no) :
    ∀ (xs : List α) (acc : List D), (∀ x ∈ xs, ∀ k : List D → En → Prop, k ((ys x).map (h x)) (e.set i (.val (f x))) → wi1 (e.set i (.val (f x))) k) →
    (∀ x ∈ xs, ∀ b ∈ ys x, ∀ k : Bool → En → Prop, k (p x b) ((e.set i (.val (f x))).set j (.val (h x b))) → tt1 ((e.set i (.val (f x))).set j (.val (h x b))) k) →
    (∀ x ∈ xs, ∀ b ∈ ys x, p x b = true → ∀ k : D → En → Prop, k (y x b) ((e.set i (.val (f x))).set j (.val (h x b))) → te ((e.set i (.val (f x))).set j (.val (h x b))) k) →
    acc.length + (xs.map fun x => (ys x).length).sum ≤ sizeLine → fin (acc ++ xs.flatMap fun x => ((ys x).filter (p x)).map (y x)) e → lc2Go [i, j] [j] (gN i) wYes wi1 (gN j) tt1 te fin (xs.map f) acc e
  | [], acc, _, _, _, _, hf => by simpa [lc2Go] using hf
  | x :: xs, acc, hw, ht, hy, hl, hf => by
    simp only [List.map_cons, List.sum_cons] at hl
    have hj' : (e.set i (.val (f x)))[j]? = some .no := by rw [List.getElem?_set_ne hij, hj]
    simp only [List.map_cons, lc2Go, gN, wYes, if_true]
    refine hw x List.mem_cons_self _ ?_
    rw [wipe_no hj']
    have hfl : (((ys x).filter (p x)).map (y x)).length ≤ (ys x).length := by
      rw [List.length_map]
      exact List.length_filter_le _ _
    refine lc2_in (h x) (y x) (p x) hj' (ys x) acc (ht x List.mem_cons_self) (hy x List.mem_cons_self) (by omega) ?_
    have e2 : wipeE (e.set i (.val (f x))) [i, j] = e := by
      show (wipeE (e.set i (.val (f x))) [j]).set i .no = e
      rw [wipe_no hj', List.set_set]
      exact wipe_no hi
    rw [e2]
    refine lc2_map hij f ys h p y hi hj xs _ (fun z hz => hw z (List.mem_cons_of_mem _ hz)) (fun z hz => ht z (List.mem_cons_of_mem _ hz)) (fun z hz => hy z (List.mem_cons_of_mem _ hz)) (by rw [List.length_append]; omega) ?_
    simpa using hf
theorem seq_step {w u : WS} {env : En} (env' : En) {E : DEnds} (h : ∀ E' : DEnds, E'.rt = E.rt → E'.bk = E.bk → E'.ct = E.ct → E'.nx env' → w env E') (h' : u env' E) : sSeq w u env E := h { E with nx := fun e => u e E } rfl rfl rfl h'
theorem seq_stepP {w u : WS} {env : En} (P : En → Prop) {E : DEnds} (h : ∀ E' : DEnds, E'.rt = E.rt → E'.bk = E.bk → E'.ct = E.ct → (∀ e, P e → E'.nx e) → w env E') (h' : ∀ e, P e → u e E) : sSeq w u env E := h { E with nx := fun e => u e E } rfl rfl rfl h'
theorem filter_yes {α : Type} (l : List α) : l.filter (fun _ => true) = l := List.filter_eq_self.mpr (by simp)
theorem small_int {n : Nat} (h : n ≤ 100000) : -(2 ^ 62) ≤ (n : Int) ∧ (n : Int) < 2 ^ 62 := by omega
/-! loops -/
theorem for_ind {α : Type} {g : WG} {body : WS} {E : DEnds} (f : α → D) (P : List α → En → Prop) (hn : ∀ e, P [] e → E.nx e)
    (hc : ∀ x xs e, P (x :: xs) e → ∀ R : En → Prop, (∀ e', P xs e' → R e') → g (f x) e fun e2 => body e2 { E with nx := R, ct := R, bk := E.nx }) : ∀ (xs : List α) (e : En), P xs e → forGo g body E (xs.map f) e
  | [], e, h => hn e h
  | x :: xs, e, h => hc x xs e h _ fun e' h' => for_ind f P hn hc xs e' h'
end DL

/-! V1: plain proofs, the short defs. -/
namespace DL
open PySem PySem.Spec PyProof.Rows L2
abbrev EndQ (q : D → Prop) : DEnds := { nx := fun _ => q .non, rt := fun d _ => q d }
theorem v_is_integer (J : GJ) (ds : List D) (q : D → Prop) (_ : ds.length = 1) (h : S_is_integer J ds q) : w_is_integer J (startE N_is_integer ds) (EndQ q) := by
  obtain ⟨i, rfl, hq⟩ := h
  simpa [w_is_integer, isiT] using hq
theorem v_is_within (J : GJ) (ds : List D) (q : D → Prop) (_ : ds.length = 3) (h : S_is_within J ds q) : w_is_within J (startE N_is_within ds) (EndQ q) := by
  obtain ⟨i, lo, hi, rfl, hq⟩ := h
  simp [w_is_within, S_is_integer]
  by_cases h1 : lo ≤ i
  · right
    simpa [h1] using hq
  · left
    exact ⟨by omega, by simpa [h1] using hq⟩
theorem v_is_tuple (J : GJ) (ds : List D) (q : D → Prop) (_ : ds.length = 2) (h : S_is_tuple J ds q) : w_is_tuple J (startE N_is_tuple ds) (EndQ q) := by
  obtain ⟨xs, n, rfl, hq⟩ := h
  have e : ((xs.length : Int) == n) = decide ((xs.length : Int) = n) := by
    rw [Bool.eq_iff_iff, beq_iff_eq, decide_eq_true_eq]
  simpa [w_is_tuple, isiT, e] using hq
theorem v_is_sized (J : GJ) (ds : List D) (q : D → Prop) (_ : ds.length = 3) (h : S_is_sized J ds q) : w_is_sized J (startE N_is_sized ds) (EndQ q) := by
  obtain ⟨xs, lo, hi, rfl, hq⟩ := h
  simp [w_is_sized, isiT]
  by_cases h1 : lo ≤ (xs.length : Int)
  · right
    simpa [h1] using hq
  · left
    exact ⟨by omega, by simpa [h1] using hq⟩
theorem v_check_team (J : GJ) (ds : List D) (q : D → Prop) (_ : ds.length = 2) (h : S_check_team J ds q) : w_check_team J (startE N_check_team ds) (EndQ q) := by
  obtain ⟨n, t, rfl, h0, h1, hq⟩ := h
  have h2 : t ≤ n - 1 := by omega
  simp [w_check_team, S_is_within]
  exact ⟨_, _, _, ⟨rfl, rfl, rfl⟩, ⟨h0, h2⟩, hq⟩
theorem v_check_beats (J : GJ) (ds : List D) (q : D → Prop) (_ : ds.length = 1) (h : S_check_beats J ds q) : w_check_beats J (startE N_check_beats ds) (EndQ q) := by
  obtain ⟨n, bt, rfl, hb, hq⟩ := h
  simp [w_check_beats, S_are_beats]
  exact ⟨n, bt, rfl, hb, hq⟩
theorem v__law_like (J : GJ) (ds : List D) (q : D → Prop) (_ : ds.length = 2) (h : S__law_like J ds q) : w__law_like J (startE N__law_like ds) (EndQ q) := by
  obtain ⟨d, rfl, h1, h2, h3, hq⟩ := h
  simpa [w__law_like, h1, h2, h3] using hq
theorem v__law_any (J : GJ) (ds : List D) (q : D → Prop) (_ : ds.length = 2) (h : S__law_any J ds q) : w__law_any J (startE N__law_any ds) (EndQ q) := by
  obtain ⟨a, xs, rfl, hJ, hne, hl, hq⟩ := h
  have hp : 0 < xs.length := List.length_pos_iff.mpr hne
  simp [w__law_any]
  refine ⟨a, xs.length, rfl, hJ, by omega, by omega, fun r h0 h1 => ?_⟩
  have hr : r.toNat < xs.length := by omega
  refine ⟨xs[r.toNat], ?_, hq _ (List.getElem_mem hr)⟩
  have e := atI_nat (xs := xs) (List.getElem?_eq_getElem hr)
  rwa [Int.toNat_of_nonneg h0] at e
end DL

namespace DL
open PySem PySem.Spec PyProof.Rows L2
theorem natD_ints (l : List Nat) : natD l = (l.map fun (i : Nat) => (i : Int)).map D.int := by
  simp [natD]
theorem len_set {l : List Nat} (h : l.Nodup) {out : List Int} (nd : out.Nodup) (hm : ∀ k, k ∈ out ↔ k ∈ l.map fun (i : Nat) => (i : Int)) : out.length = l.length := by
  have h2 : (l.map fun (i : Nat) => (i : Int)).Nodup := by
    unfold List.Nodup at h ⊢
    rw [List.pairwise_map]
    exact h.imp fun ne e => ne (by omega)
  have p := (List.perm_ext_iff_of_nodup nd h2).mpr hm
  rw [p.length_eq, List.length_map]
theorem v_is_order (J : GJ) (ds : List D) (q : D → Prop) (_ : ds.length = 2) (h : S_is_order J ds q) : w_is_order J (startE N_is_order ds) (EndQ q) := by
  obtain ⟨n, l, rfl, ⟨h1, h2, h3⟩, h4, hq⟩ := h
  simp [w_is_order, S_is_tuple]
  refine ⟨_, _, ⟨rfl, rfl⟩, ?_⟩
  rw [if_pos (by simp [natD_length, h1])]
  refine ⟨rfl, ?_⟩
  refine lc_map1 (fun i : Nat => .int (i : Nat)) (fun i : Nat => .bl true) rfl l (fun x hx k hk => ?_) (small_sz (by omega)) ?_
  · simp [S_is_within]
    refine ⟨_, _, _, ⟨rfl, rfl, rfl⟩, ?_⟩
    have := h2 x hx
    rw [decide_eq_true (by omega), decide_eq_true (by omega)]
    exact hk
  · refine ⟨List.replicate l.length true, by simp [List.map_const'], .inr ⟨by simp, ?_⟩⟩
    simp
    refine ⟨l.map fun (i : Nat) => (i : Int), natD_ints l, by simp; omega, fun out nd hm => ?_⟩
    rw [len_set h3 nd (by simpa using hm), h1]
    simpa using hq
theorem ix2 {n : Nat} {bt : Nat → Nat → Bool} {i j : Nat} (hi : i < n) (hj : j < n) (q : D → Prop) (hq : q (.bl (bt i j))) : oIx [bD n bt, .int (i : Nat)] fun d => oIx [d, .int (j : Nat)] q :=
  ⟨_, atI_range hi, _, atI_range hj, hq⟩
theorem v_are_beats (J : GJ) (ds : List D) (q : D → Prop) (_ : ds.length = 1) (h : S_are_beats J ds q) : w_are_beats J (startE N_are_beats ds) (EndQ q) := by
  obtain ⟨n, bt, rfl, hb, hq⟩ := h
  have := hb.lo
  have := hb.hi
  refine seq_step [.val (bD n bt), .no, .no, .no, .no] (fun E _ _ _ hE => ?_) ?_
  · simp [bD, S_is_sized]
    refine ⟨_, _, _, ⟨rfl, rfl, rfl⟩, ?_⟩
    rw [if_pos (by simp; omega)]
    refine ⟨rfl, ?_⟩
    refine lc_map1 _ (fun _ => .bl true) rfl _ (fun x hx k hk => ?_) (by simp; exact small_sz (by omega)) ?_
    · simp [S_is_tuple]
      exact ⟨_, _, ⟨rfl, rfl⟩, by simpa using hk⟩
    · refine ⟨List.replicate n true, by simp [List.map_const'], .inr ⟨by simp, hE⟩⟩
  refine seq_step [.val (bD n bt), .no, .no, .no, .no] (fun E _ _ _ hE => ?_) ?_
  · simp [bD]
    refine ⟨rfl, lc2_map (α := Nat) (β := Nat) (by decide) _ (fun _ => List.range n) (fun x j => .bl (bt x j)) (fun _ _ => true) (fun _ _ => .bl true) rfl rfl _ _ (fun x hx k hk => by simpa using hk) (fun x hx b hb k hk => hk) (fun x hx b hb _ k hk => ?_) (by
      have := Nat.mul_le_mul ‹n ≤ 8› ‹n ≤ 8›
      simp [List.map_const']
      exact small_sz (by omega)) ?_⟩
    · simpa [isiT] using hk
    · refine ⟨((List.range n).flatMap fun _ => (List.range n).map fun _ => true), by simp [List.map_flatMap, filter_yes, Function.comp_def], .inr ⟨by simp, hE⟩⟩
  refine seq_stepP (fun e => ∃ s, e = [.val (bD n bt), .no, .no, s, .no]) (fun E _ _ _ hE => ?_) fun e he => ?_
  · simp [bD]
    refine ⟨by omega, ?_⟩
    rw [rgD_nat]
    refine for_ind (α := Nat) _ (fun xs e => (∀ x ∈ xs, x < n) ∧ ∃ s, e = [.val (bD n bt), .no, .no, s, .no]) (fun e h => hE e h.2) (fun x xs e h R hR => ?_) _ _ ⟨by simp, .no, rfl⟩
    obtain ⟨hx, s, rfl⟩ := h
    have hxn := hx x List.mem_cons_self
    simp
    refine ⟨_, atI_range hxn, _, atI_range hxn, ?_⟩
    rw [hb.self x hxn]
    refine .inl ⟨rfl, by omega, rfl, ?_⟩
    rw [rgD_nat]
    refine lc_map1 _ (fun _ => .bl true) rfl _ (fun y hy k hk => ?_) (by simp; exact small_sz (by omega)) ?_
    · have hyn : y < n := by
        have := List.mem_range.mp hy
        omega
      simp
      refine ⟨_, atI_range hxn, _, atI_range hyn, _, atI_range hyn, _, atI_range hxn, ?_⟩
      have hne : x ≠ y := by
        have := List.mem_range.mp hy
        omega
      rw [hb.anti x y hxn hyn hne]
      simpa using hk
    · refine ⟨List.replicate x true, by simp [List.map_const'], .inr ⟨by simp, ?_⟩⟩
      exact hR _ ⟨fun z hz => hx z (List.mem_cons_of_mem _ hz), _, rfl⟩
  obtain ⟨s, rfl⟩ := he
  exact hq
end DL

namespace DL
open PySem PySem.Spec PyProof.Rows L2
theorem mem_false (bs : List Bool) : (false ∈ bs) ↔ bs.all id = false := by
  rw [List.all_eq_false]
  simp
theorem near_in {n : Nat} {p : Nat → Bool} {o : Nat} (h : o < n) : ((List.range n).filter p).contains o = p o := by
  rw [Bool.eq_iff_iff, List.contains_iff_mem, List.mem_filter, List.mem_range]
  simp [h]
theorem king_all (n : Nat) (bt : Nat → Nat → Bool) (x : Nat) :
    (((List.range n).filter fun o => !(o == x)).map fun o => (((List.range n).filter (bt x)).contains o || (((List.range n).filter (bt x)).map fun j => bt j o).any id)).all id = kingB n bt x := by
  rw [List.all_map, List.all_filter]
  unfold kingB
  rw [Bool.eq_iff_iff, List.all_eq_true, List.all_eq_true]
  refine forall_congr' fun o => forall_congr' fun ho => ?_
  have ho := List.mem_range.mp ho
  simp only [Function.comp_def, near_in ho, List.any_map, List.any_filter, id, Bool.not_not, Bool.or_assoc]
theorem v_kings (J : GJ) (ds : List D) (q : D → Prop) (_ : ds.length = 1) (h : S_kings J ds q) : w_kings J (startE N_kings ds) (EndQ q) := by
  obtain ⟨n, bt, rfl, hb, hq⟩ := h
  have := hb.lo
  have := hb.hi
  refine seq_step [.val (bD n bt), .no, .no, .no, .no, .no, .no] (fun E _ _ _ hE => ?_) ?_
  · simp [S_check_beats]
    exact ⟨n, bt, rfl, hb, hE⟩
  refine seq_step [.val (bD n bt), .val (.lst (natD (List.range n))), .own [], .no, .no, .no, .no] (fun E _ _ _ hE => ?_) ?_
  · simp [bD]
    have h2 : E.nx [.val (bD n bt), .val (.lst (rgD 0 1 n)), .own [], .no, .no, .no, .no] := by
      rw [rgD_nat]
      exact hE
    first | exact h2 | exact ⟨by omega, h2⟩ | exact ⟨by omega, by omega, h2⟩
  refine seq_stepP (fun e => ∃ s t, e = [.val (bD n bt), .val (.lst (natD (List.range n))), .own (natD (kingsL n bt)), s, t, .no, .no]) (fun E _ _ _ hE => ?_) fun e he => ?_
  · simp [natD]
    refine for_ind (α := Nat) _ (fun xs e => ∃ pre s t, pre ++ xs = List.range n ∧ e = [.val (bD n bt), .val (.lst (natD (List.range n))), .own (natD (pre.filter (kingB n bt))), s, t, .no, .no])
      (fun e h => ?_) (fun x xs e h R hR => ?_) _ _ ⟨[], .no, .no, rfl, rfl⟩
    · obtain ⟨pre, s, t, h1, rfl⟩ := h
      rw [List.append_nil] at h1
      subst h1
      exact hE _ ⟨s, t, rfl⟩
    · obtain ⟨pre, s, t, h1, rfl⟩ := h
      have hx : x < n := List.mem_range.mp (by rw [← h1]; simp)
      refine seq_step [.val (bD n bt), .val (.lst (natD (List.range n))), .own (natD (pre.filter (kingB n bt))), .val (.int (x : Nat)), .val (.lst (natD ((List.range n).filter (bt x)))), .no, .no] (fun E' _ _ _ hE' => ?_) ?_
      · simp
        refine ⟨rfl, lc_map (fun i : Nat => .int (i : Nat)) (fun i : Nat => .int (i : Nat)) (bt x) rfl _ _ (fun y hy k hk => ?_) (fun y hy _ k hk => by simpa using hk) (by simp; exact small_sz (by omega)) hE'⟩
        simp
        refine ⟨_, atI_range hx, _, atI_range (List.mem_range.mp hy), ?_⟩
        cases hc : bt x y with
        | false => exact .inl ⟨rfl, by rw [hc] at hk; exact hk⟩
        | true => exact .inr ⟨rfl, by rw [hc] at hk; exact hk⟩
      · simp
        refine ⟨rfl, lc_map (fun i : Nat => .int (i : Nat)) (fun o => .bl (((List.range n).filter (bt x)).contains o || (((List.range n).filter (bt x)).map fun j => bt j o).any id)) (fun o => !(o == x)) rfl _ _ (fun y hy k hk => ?_) (fun y hy _ k hk => ?_) (by simp; exact small_sz (by omega)) ?_⟩
        · simp
          by_cases hc : y = x
          · exact .inl ⟨by rw [hc], by simpa [hc] using hk⟩
          · have h2 : (!(y == x)) = true := by simp [hc]
            rw [h2] at hk
            exact .inr ⟨by omega, hk⟩
        · have hyn := List.mem_range.mp hy
          simp
          refine ⟨okEA_natD _ _, ?_⟩
          rw [inD_natD]
          cases hc : ((List.range n).filter (bt x)).contains y with
          | true =>
            rw [hc, Bool.true_or] at hk
            exact .inr ⟨rfl, hk⟩
          | false =>
            refine .inl ⟨rfl, rfl, lc_map1 (fun i : Nat => .int (i : Nat)) (fun j => .bl (bt j y)) rfl _ (fun z hz k' hk' => ?_) (small_sz (by have := List.length_filter_le (bt x) (List.range n); rw [List.length_range] at this; omega)) ?_⟩
            · have hzn := List.mem_range.mp (List.mem_filter.mp hz).1
              simp
              exact ⟨_, atI_range hzn, _, atI_range hyn, hk'⟩
            · refine ⟨((List.range n).filter (bt x)).map fun j => bt j y, by simp, ?_⟩
              rw [hc, Bool.false_or] at hk
              exact hk
        · refine ⟨((List.range n).filter fun o => !(o == x)).map fun o => (((List.range n).filter (bt x)).contains o || (((List.range n).filter (bt x)).map fun j => bt j o).any id), by simp, ?_⟩
          rw [mem_false, king_all]
          cases hc : kingB n bt x with
          | false =>
            refine .inl ⟨rfl, hR _ ⟨pre ++ [x], .val (.int (x : Nat)), .val (.lst (natD ((List.range n).filter (bt x)))), by simpa using h1, ?_⟩⟩
            simp [hc]
          | true =>
            refine .inr ⟨by simp, ?_⟩
            have hlen : pre.length ≤ n := by
              have := congrArg List.length h1
              simp at this
              omega
            refine ⟨⟨_, rfl⟩, _, rfl, ?_, hR _ ⟨pre ++ [x], .val (.int (x : Nat)), .val (.lst (natD ((List.range n).filter (bt x)))), by simpa using h1, ?_⟩⟩
            · rw [natD_length, sizeLine_eq]
              have := List.length_filter_le (kingB n bt) pre
              omega
            · simp [hc, natD]
  obtain ⟨s, t, rfl⟩ := he
  simpa using hq
def farB (n : Nat) (bt : Nat → Nat → Bool) (x o : Nat) : Bool := (List.range n).any fun j => bt x j && bt j o
theorem any_near (n : Nat) (bt : Nat → Nat → Bool) (x o : Nat) : (((List.range n).filter (bt x)).map fun j => bt j o).any id = farB n bt x o := by
  rw [List.any_map, List.any_filter]
  rfl
theorem mem_true (bs : List Bool) : (true ∈ bs) ↔ bs.any id = true := by
  rw [List.any_eq_true]
  simp
theorem far_all (n : Nat) (bt : Nat → Nat → Bool) (x : Nat) :
    ((List.range n).map fun o => (o == x || (((List.range n).filter (bt x)).contains o || ((List.range n).filter (farB n bt x)).contains o))).all id = kingB n bt x := by
  rw [List.all_map]
  unfold kingB
  rw [Bool.eq_iff_iff, List.all_eq_true, List.all_eq_true]
  refine forall_congr' fun o => forall_congr' fun ho => ?_
  have ho := List.mem_range.mp ho
  simp only [Function.comp_def, near_in ho, id, Bool.or_assoc]
  rfl
theorem filt_len {n : Nat} (p : Nat → Bool) : ((List.range n).filter p).length ≤ n := by
  have := List.length_filter_le p (List.range n)
  rwa [List.length_range] at this
theorem v__law_kings (J : GJ) (ds : List D) (q : D → Prop) (_ : ds.length = 1) (h : S__law_kings J ds q) : w__law_kings J (startE N__law_kings ds) (EndQ q) := by
  obtain ⟨n, bt, rfl, hb, hq⟩ := h
  have := hb.lo
  have := hb.hi
  refine seq_step [.val (bD n bt), .own [], .val (.lst (natD (List.range n))), .no, .no, .no, .no, .no] (fun E _ _ _ hE => ?_) ?_
  · simp [bD]
    have h2 : E.nx [.val (bD n bt), .own [], .val (.lst (rgD 0 1 n)), .no, .no, .no, .no, .no] := by
      rw [rgD_nat]
      exact hE
    first | exact h2 | exact ⟨by omega, h2⟩ | exact ⟨by omega, by omega, h2⟩
  refine seq_stepP (fun e => ∃ s t u, e = [.val (bD n bt), .own (natD (kingsL n bt)), .val (.lst (natD (List.range n))), s, t, .no, u, .no]) (fun E _ _ _ hE => ?_) fun e he => ?_
  · simp [natD]
    refine for_ind (α := Nat) _ (fun xs e => ∃ pre s t u, pre ++ xs = List.range n ∧ e = [.val (bD n bt), .own (natD (pre.filter (kingB n bt))), .val (.lst (natD (List.range n))), s, t, .no, u, .no])
      (fun e h => ?_) (fun x xs e h R hR => ?_) _ _ ⟨[], .no, .no, .no, rfl, rfl⟩
    · obtain ⟨pre, s, t, u, h1, rfl⟩ := h
      rw [List.append_nil] at h1
      subst h1
      exact hE _ ⟨s, t, u, rfl⟩
    · obtain ⟨pre, s, t, u, h1, rfl⟩ := h
      have hx : x < n := List.mem_range.mp (by rw [← h1]; simp)
      have hlen : pre.length ≤ n := by
        have := congrArg List.length h1
        simp at this
        omega
      refine seq_step [.val (bD n bt), .own (natD (pre.filter (kingB n bt))), .val (.lst (natD (List.range n))), .val (.int (x : Nat)), .val (.lst (natD ((List.range n).filter (bt x)))), .no, u, .no] (fun E' _ _ _ hE' => ?_) ?_
      · simp
        refine ⟨rfl, lc_map (fun i : Nat => .int (i : Nat)) (fun i : Nat => .int (i : Nat)) (bt x) rfl _ _ (fun y hy k hk => ?_) (fun y hy _ k hk => by simpa using hk) (by simp; exact small_sz (by omega)) hE'⟩
        simp
        refine ⟨_, atI_range hx, _, atI_range (List.mem_range.mp hy), ?_⟩
        cases hc : bt x y with
        | false => exact .inl ⟨rfl, by rw [hc] at hk; exact hk⟩
        | true => exact .inr ⟨rfl, by rw [hc] at hk; exact hk⟩
      refine seq_step [.val (bD n bt), .own (natD (pre.filter (kingB n bt))), .val (.lst (natD (List.range n))), .val (.int (x : Nat)), .val (.lst (natD ((List.range n).filter (bt x)))), .no, .val (.lst (natD ((List.range n).filter (farB n bt x)))), .no] (fun E' _ _ _ hE' => ?_) ?_
      · simp
        refine ⟨rfl, lc_map (fun i : Nat => .int (i : Nat)) (fun i : Nat => .int (i : Nat)) (farB n bt x) rfl _ _ (fun y hy k hk => ?_) (fun y hy _ k hk => by simpa using hk) (by simp; exact small_sz (by omega)) hE'⟩
        have hyn := List.mem_range.mp hy
        simp
        refine ⟨rfl, lc_map1 (fun i : Nat => .int (i : Nat)) (fun j => .bl (bt j y)) rfl _ (fun z hz k' hk' => ?_) (small_sz (by have := filt_len (n := n) (bt x); omega)) ?_⟩
        · have hzn := List.mem_range.mp (List.mem_filter.mp hz).1
          simp
          exact ⟨_, atI_range hzn, _, atI_range hyn, hk'⟩
        · refine ⟨((List.range n).filter (bt x)).map fun j => bt j y, by simp, ?_⟩
          rw [mem_true, any_near]
          cases hc : farB n bt x y with
          | false => exact .inl ⟨by simp, by rw [hc] at hk; exact hk⟩
          | true => exact .inr ⟨rfl, by rw [hc] at hk; exact hk⟩
      · simp
        refine ⟨rfl, lc_map1 (fun i : Nat => .int (i : Nat)) (fun o => .bl (o == x || (((List.range n).filter (bt x)).contains o || ((List.range n).filter (farB n bt x)).contains o))) rfl _ (fun y hy k hk => ?_) (by simp; exact small_sz (by omega)) ?_⟩
        · simp
          by_cases hc : y = x
          · have h2 : (y == x) = true := by simp [hc]
            rw [h2, Bool.true_or] at hk
            exact .inr ⟨by rw [hc], hk⟩
          · have h2 : (y == x) = false := by simp [hc]
            rw [h2, Bool.false_or] at hk
            refine .inl ⟨by omega, okEA_natD _ _, ?_⟩
            rw [inD_natD, inD_natD]
            cases hd : ((List.range n).filter (bt x)).contains y with
            | true => exact .inr ⟨rfl, by rw [hd, Bool.true_or] at hk; exact hk⟩
            | false => exact .inl ⟨rfl, okEA_natD _ _, by rw [hd, Bool.false_or] at hk; exact hk⟩
        · refine ⟨(List.range n).map fun o => (o == x || (((List.range n).filter (bt x)).contains o || ((List.range n).filter (farB n bt x)).contains o)), by simp, ?_⟩
          rw [mem_false, far_all]
          cases hc : kingB n bt x with
          | false =>
            refine .inl ⟨rfl, _, rfl, ?_, hR _ ⟨pre ++ [x], .val (.int (x : Nat)), .val (.lst (natD ((List.range n).filter (bt x)))), .val (.lst (natD ((List.range n).filter (farB n bt x)))), by simpa using h1, ?_⟩⟩
            · rw [natD_length]
              have := List.length_filter_le (kingB n bt) pre
              exact small_sz (by omega)
            · simp [hc]
          | true =>
            refine .inr ⟨by simp, _, rfl, ?_, hR _ ⟨pre ++ [x], .val (.int (x : Nat)), .val (.lst (natD ((List.range n).filter (bt x)))), .val (.lst (natD ((List.range n).filter (farB n bt x)))), by simpa using h1, ?_⟩⟩
            · rw [natD_length]
              have := List.length_filter_le (kingB n bt) pre
              exact small_sz (by omega)
            · simp [hc, natD]
  obtain ⟨s, t, u, rfl⟩ := he
  simpa using hq
end DL

namespace DL
open PySem PySem.Spec PyProof.Rows L2
theorem rgc2 (len : Nat) (h : len ≤ 8) : RgC 0 len 2 ((len + 1) / 2) := by
  have : len = 0 ∨ len = 1 ∨ len = 2 ∨ len = 3 ∨ len = 4 ∨ len = 5 ∨ len = 6 ∨ len = 7 ∨ len = 8 := by omega
  unfold RgC
  rcases this with rfl | rfl | rfl | rfl | rfl | rfl | rfl | rfl | rfl <;> decide +kernel
theorem rgD_two (k : Nat) : rgD 0 2 k = (List.range' 0 k).map fun i => D.int ((2 * i : Nat) : Int) := by
  unfold rgD
  rw [← List.range_eq_range']
  exact List.map_congr_left fun i _ => by
    show D.int _ = D.int _
    congr 1
    omega
theorem cutD_pair (xs : List D) (t : Nat) (h : t ≤ xs.length) : cutD xs (some (t : Int)) (some ((t : Int) + 2)) = (xs.drop t).take 2 := by
  unfold cutD
  rw [show (t : Int) + 2 = ((t + 2 : Nat) : Int) by omega, HT.sIx_nat, HT.sIx_nat]
  rw [Nat.min_eq_left h]
  by_cases h2 : t + 2 ≤ xs.length
  · rw [Nat.min_eq_left h2]
    congr 1
    omega
  · rw [Nat.min_eq_right (by omega)]
    rw [List.take_of_length_le (by simp), List.take_of_length_le (by simp; omega)]
theorem natD_drop (l : List Nat) (k : Nat) : (natD l).drop k = natD (l.drop k) := by simp [natD]
theorem champ_one {bt : Nat → Nat → Bool} {f : Nat} {l : List Nat} (h : l.length ≤ 1) : champ bt f l = l.headD 0 := by
  cases f with
  | zero => rfl
  | succ f => simp [champ, h]
theorem champ_step {bt : Nat → Nat → Bool} {f : Nat} {l : List Nat} (h : ¬ l.length ≤ 1) : champ bt (f + 1) l = champ bt f (roundL bt l) := by simp [champ, h]
theorem roundL_mem {bt : Nat → Nat → Bool} {n : Nat} : ∀ (l : List Nat), (∀ x ∈ l, x < n) → ∀ x ∈ roundL bt l, x < n
  | [], h, x, hx => by simp [roundL] at hx
  | [a], h, x, hx => h x (by simpa [roundL] using hx)
  | a :: b :: r, h, x, hx => by
    simp only [roundL, List.mem_cons] at hx
    rcases hx with rfl | hx
    · split
      · exact h _ (by simp)
      · exact h _ (by simp)
    · exact roundL_mem r (fun y hy => h y (by simp [hy])) x hx
theorem v_raw_champion (J : GJ) (ds : List D) (q : D → Prop) (_ : ds.length = 2) (h : S_raw_champion J ds q) : w_raw_champion J (startE N_raw_champion ds) (EndQ q) := by
  obtain ⟨n, bt, l, rfl, hb, ⟨hl, hm, hnd⟩, hq⟩ := h
  have := hb.lo
  have := hb.hi
  refine seq_step [.val (bD n bt), .val (.tup (natD l)), .val (.lst (natD l)), .no, .no, .no] (fun E _ _ _ hE => ?_) ?_
  · simpa using hE
  refine seq_stepP (fun e => ∃ c s t u, champB n bt l = c ∧ e = [.val (bD n bt), .val (.tup (natD l)), .val (.lst (natD [c])), s, t, u]) (fun E _ _ _ hE => ?_) fun e he => ?_
  · refine ⟨fun m e => ∃ (l' : List Nat) (f : Nat) (s t u : Sl), m = l'.length ∧ 1 ≤ l'.length ∧ l'.length ≤ 8 ∧ l'.length ≤ f + 1 ∧ (∀ x ∈ l', x < n) ∧ champ bt f l' = champB n bt l ∧ e = [.val (bD n bt), .val (.tup (natD l)), .val (.lst (natD l')), s, t, u], ⟨l.length, l, n, .no, .no, .no, rfl, by omega, by omega, by omega, hm, rfl, rfl⟩, ?_⟩
    rintro m e ⟨l', f, s, t, u, rfl, h1, h8, hf, hm', hc, rfl⟩
    have test : ∀ k : Bool → En → Prop, k (decide (1 < l'.length)) [.val (bD n bt), .val (.tup (natD l)), .val (.lst (natD l')), s, t, u] → wTB (w2 oGt (wOf (wPr oLen (wCons (wB 2) wNil))) (wOf (wC (.int 1)))) [.val (bD n bt), .val (.tup (natD l)), .val (.lst (natD l')), s, t, u] k := fun k hk => by
      simp [natD_length]
      by_cases c : l'.length ≤ 1
      · rw [decide_eq_false (by omega)] at hk
        exact .inl ⟨by omega, hk⟩
      · rw [decide_eq_true (by omega)] at hk
        exact .inr ⟨by omega, hk⟩
    refine test _ ?_
    by_cases hlen : l'.length ≤ 1
    · rw [decide_eq_false (by omega), if_neg (by simp)]
      have h11 : l'.length = 1 := by omega
      obtain ⟨c, rfl⟩ := List.length_eq_one_iff.mp h11
      rw [champ_one hlen] at hc
      exact hE _ ⟨c, s, t, u, hc.symm, rfl⟩
    · rw [decide_eq_true (by omega), if_pos rfl]
      obtain ⟨f, rfl⟩ : ∃ g, f = g + 1 := ⟨f - 1, by omega⟩
      rw [champ_step hlen] at hc
      refine seq_step [.val (bD n bt), .val (.tup (natD l)), .val (.lst (natD l')), .own [], t, u] (fun E' _ _ _ hE' => ?_) ?_
      · simpa using hE'
      refine seq_stepP (fun e => ∃ t u, e = [.val (bD n bt), .val (.tup (natD l)), .val (.lst (natD l')), .own (natD (roundL bt l')), t, u]) (fun E' _ _ _ hE' => ?_) fun e he => ?_
      · simp [natD_length]
        refine ⟨_, _, _, ⟨rfl, rfl, rfl⟩, _, rgc2 _ h8, ?_⟩
        rw [rgD_two]
        refine for_ind (α := Nat) _ (fun xs e => ∃ (k : Nat) (acc : List Nat) (t u : Sl), xs = List.range' k ((l'.length + 1) / 2 - k) ∧ k ≤ (l'.length + 1) / 2 ∧ acc ++ roundL bt (l'.drop (2 * k)) = roundL bt l' ∧ e = [.val (bD n bt), .val (.tup (natD l)), .val (.lst (natD l')), .own (natD acc), t, u])
          (fun e h => ?_) (fun x xs e h R hR => ?_) _ _ ⟨0, [], t, u, rfl, Nat.zero_le _, rfl, rfl⟩
        · obtain ⟨k, acc, t, u, e1, e2, e3, rfl⟩ := h
          have hk : (l'.length + 1) / 2 - k = 0 := by
            have := congrArg List.length e1
            simpa using this.symm
          rw [List.drop_of_length_le (by omega)] at e3
          have e4 : acc = roundL bt l' := by simpa [roundL] using e3
          exact hE' _ ⟨t, u, by rw [e4]⟩
        · obtain ⟨k, acc, t, u, e1, e2, e3, rfl⟩ := h
          have hk : (l'.length + 1) / 2 - k = ((l'.length + 1) / 2 - (k + 1)) + 1 := by
            have := congrArg List.length e1
            simp at this
            omega
          rw [hk, List.range'_succ] at e1
          obtain ⟨rfl, rfl⟩ := List.cons.inj e1
          have hacc : acc.length ≤ 8 := by
            have := congrArg List.length e3
            rw [List.length_append, roundL_length, roundL_length] at this
            omega
          have hlt : 2 * x < l'.length := by omega
          refine seq_step [.val (bD n bt), .val (.tup (natD l)), .val (.lst (natD l')), .own (natD acc), .val (.int ((2 * x : Nat) : Int)), .val (.lst (natD ((l'.drop (2 * x)).take 2)))] (fun E'' _ _ _ hE'' => ?_) ?_
          · simp
            rw [show (2 * (x : Int)) = ((2 * x : Nat) : Int) by omega, cutD_pair _ _ (by rw [natD_length]; omega), natD_drop]
            have e : (natD (l'.drop (2 * x))).take 2 = natD ((l'.drop (2 * x)).take 2) := by simp [natD]
            rw [e]
            exact hE''
          · obtain ⟨a, r, hd⟩ : ∃ a r, l'.drop (2 * x) = a :: r := by
              cases hc : l'.drop (2 * x) with
              | nil =>
                have := congrArg List.length hc
                simp at this
                omega
              | cons a r => exact ⟨a, r, rfl⟩
            have hd2 : l'.drop (2 * (x + 1)) = r.drop 1 := by
              rw [show 2 * (x + 1) = 2 * x + 2 by omega, ← List.drop_drop, hd]
              rfl
            have han : a < n := hm' a (List.mem_of_mem_drop (i := 2 * x) (by rw [hd]; simp))
            rw [hd] at e3 ⊢
            cases r with
            | nil =>
              simp [natD]
              refine ⟨_, atI_nat (j := 0) rfl, small_sz (by omega), hR _ ⟨x + 1, acc ++ [a], .val (.int ((2 * x : Nat) : Int)), .val (.lst (natD [a])), rfl, by omega, ?_, by simp [natD]⟩⟩
              rw [hd2, ← e3]
              simp [roundL]
            | cons b r =>
              have hbn : b < n := hm' b (List.mem_of_mem_drop (i := 2 * x) (by rw [hd]; simp))
              simp [natD]
              have i0 : atI [D.int (a : Nat), D.int (b : Nat)] 0 = some (.int (a : Nat)) := atI_nat (j := 0) rfl
              have i1 : atI [D.int (a : Nat), D.int (b : Nat)] 1 = some (.int (b : Nat)) := atI_nat (j := 1) rfl
              refine ⟨_, i0, _, atI_range han, _, i1, _, atI_range hbn, ?_⟩
              cases hw : bt a b with
              | false =>
                refine .inl ⟨rfl, _, i1, small_sz (by omega), hR _ ⟨x + 1, acc ++ [b], .val (.int ((2 * x : Nat) : Int)), .val (.lst (natD [a, b])), rfl, by omega, ?_, by simp [natD]⟩⟩
                rw [hd2, ← e3]
                simp [roundL, hw]
              | true =>
                refine .inr ⟨rfl, _, i0, small_sz (by omega), hR _ ⟨x + 1, acc ++ [a], .val (.int ((2 * x : Nat) : Int)), .val (.lst (natD [a, b])), rfl, by omega, ?_, by simp [natD]⟩⟩
                rw [hd2, ← e3]
                simp [roundL, hw]
      · obtain ⟨t, u, rfl⟩ := he
        have hr := roundL_length bt l'
        refine ⟨(roundL bt l').length, by omega, roundL bt l', f, .val (.lst (natD (roundL bt l'))), t, u, rfl, by omega, by omega, by omega, roundL_mem l' hm', hc, rfl⟩
  obtain ⟨c, s, t, u, hc, rfl⟩ := he
  simp [natD]
  refine ⟨_, atI_nat (j := 0) rfl, ?_⟩
  rw [← hc]
  exact hq
end DL

namespace DL
open PySem PySem.Spec PyProof.Rows L2
theorem v__law_champion (J : GJ) (ds : List D) (q : D → Prop) (hl : ds.length = 2) (h : S__law_champion J ds q) : w__law_champion J (startE N__law_champion ds) (EndQ q) := v_raw_champion J ds q hl h
theorem bD_len (n : Nat) (bt : Nat → Nat → Bool) (q : D → Prop) (h : q (.int (n : Nat))) : oLen [bD n bt] q := by
  simpa [bD] using h
theorem v_champion (J : GJ) (ds : List D) (q : D → Prop) (_ : ds.length = 2) (h : S_champion J ds q) : w_champion J (startE N_champion ds) (EndQ q) := by
  obtain ⟨n, bt, l, rfl, hb, hp, hq⟩ := h
  have := hb.lo
  have := hb.hi
  refine seq_step [.val (bD n bt), .val (.tup (natD l))] (fun E _ _ _ hE => ?_) ?_
  · simp [S_check_beats]
    exact ⟨n, bt, rfl, hb, hE⟩
  refine seq_step [.val (bD n bt), .val (.tup (natD l))] (fun E _ _ _ hE => ?_) ?_
  · simp [bD, S_is_order]
    exact ⟨n, l, ⟨rfl, rfl⟩, hp, by omega, hE⟩
  · simp [S_raw_champion]
    exact ⟨n, bt, l, ⟨rfl, rfl⟩, hb, hp, hq⟩
/-- all orders: found by adding one at a time -/
theorem ordN_mem {n : Nat} : ∀ (k : Nat) (o : List Nat), o ∈ ordN n k → o.length = k ∧ (∀ x ∈ o, x < n) ∧ o.Nodup
  | 0, o, h => by
    simp [ordN] at h
    subst h
    simp
  | k + 1, o, h => by
    simp only [ordN, List.mem_flatMap, List.mem_map, List.mem_filter, List.mem_range] at h
    obtain ⟨p, hp, i, ⟨hi, hc⟩, rfl⟩ := h
    obtain ⟨h1, h2, h3⟩ := ordN_mem k p hp
    refine ⟨by simp [h1], fun x hx => ?_, ?_⟩
    · rcases List.mem_append.mp hx with hx | hx
      · exact h2 x hx
      · simp at hx
        omega
    · rw [List.nodup_append]
      refine ⟨h3, by simp, fun x hx y hy => ?_⟩
      simp at hy
      subst hy
      intro e
      subst e
      simp [hx] at hc
theorem ordN_perm {n : Nat} {o : List Nat} (h : o ∈ ordN n n) : Perm8 n o := ordN_mem n o h
def ordD (n k : Nat) : List D := (ordN n k).map fun o => .tup (natD o)
theorem ordN_len : ∀ n, n ≤ 6 → ∀ k, k ≤ n → (ordN n k).length ≤ 720 := by
  have h : ∀ n ∈ List.range 7, ∀ k ∈ List.range (n + 1), (ordN n k).length ≤ 720 := by decide +kernel
  exact fun n hn k hk => h n (List.mem_range.mpr (by omega)) k (List.mem_range.mpr (by omega))
theorem v_orders_of (J : GJ) (ds : List D) (q : D → Prop) (_ : ds.length = 1) (h : S_orders_of J ds q) : w_orders_of J (startE N_orders_of ds) (EndQ q) := by
  obtain ⟨n, rfl, hn, hq⟩ := h
  refine seq_step [.val (.lst (natD (List.range n))), .val (.lst (ordD n 0)), .no, .no, .no] (fun E _ _ _ hE => ?_) ?_
  · simp
    exact hE
  refine seq_stepP (fun e => ∃ s, e = [.val (.lst (natD (List.range n))), .val (.lst (ordD n n)), s, .no, .no]) (fun E _ _ _ hE => ?_) fun e he => ?_
  · simp [natD]
    refine for_ind (α := Nat) _ (fun xs e => ∃ (k : Nat) (s : Sl), k + xs.length = n ∧ e = [.val (.lst (natD (List.range n))), .val (.lst (ordD n k)), s, .no, .no])
      (fun e h => ?_) (fun x xs e h R hR => ?_) _ _ ⟨0, .no, by simp, rfl⟩
    · obtain ⟨k, s, h1, rfl⟩ := h
      simp at h1
      subst h1
      exact hE _ ⟨s, rfl⟩
    · obtain ⟨k, s, h1, rfl⟩ := h
      simp at h1
      have hk := ordN_len n hn k (by omega)
      simp
      refine ⟨rfl, lc2_map (α := List Nat) (β := Nat) (by decide) _ (fun _ => List.range n) (fun _ i => .int (i : Nat)) (fun o i => !o.contains i) (fun o i => .tup (natD (o ++ [i]))) rfl rfl _ _ (fun o ho k' hk' => hk') (fun o ho i hi k' hk' => ?_) (fun o ho i hi _ k' hk' => ?_) ?_ ?_⟩
      · simp
        refine ⟨okEA_natD _ _, ?_⟩
        rw [inD_natD]
        cases hc : o.contains i with
        | true => exact .inl ⟨rfl, by rw [hc] at hk'; exact hk'⟩
        | false => exact .inr ⟨rfl, by rw [hc] at hk'; exact hk'⟩
      · simp
        refine ⟨?_, ?_⟩
        · have := (ordN_mem k o ho).1
          rw [natD_length]
          exact small_sz (by omega)
        · simpa [natD] using hk'
      · simp [List.map_const']
        refine small_sz ?_
        have := Nat.mul_le_mul hk hn
        omega
      · refine hR _ ⟨k + 1, .val (.int (x : Nat)), by omega, ?_⟩
        simp [ordD, ordN, List.map_flatMap, Function.comp_def]
  obtain ⟨s, rfl⟩ := he
  exact hq
end DL

namespace DL
open PySem PySem.Spec PyProof.Rows L2
def notB (o : List Nat) (i : Nat) : Bool := !o.contains i
def extN (n : Nat) (o : List Nat) : List (List Nat) := ((List.range n).filter (notB o)).map fun i => o ++ [i]
theorem extN_length (n : Nat) (o : List Nat) : (extN n o).length = ((List.range n).filter (notB o)).length := by simp [extN]
theorem ordN_succ (n k : Nat) : ordN n (k + 1) = (ordN n k).flatMap (extN n) := rfl
theorem v_rigged (J : GJ) (ds : List D) (q : D → Prop) (_ : ds.length = 2) (h : S_rigged J ds q) : w_rigged J (startE N_rigged ds) (EndQ q) := by
  obtain ⟨n, bt, t, rfl, hb, hn, ht, hq⟩ := h
  have := hb.lo
  refine seq_step [.val (bD n bt), .val (.int (t : Nat)), .no] (fun E _ _ _ hE => ?_) ?_
  · simp [S_check_beats]
    exact ⟨n, bt, rfl, hb, hE⟩
  refine seq_step [.val (bD n bt), .val (.int (t : Nat)), .no] (fun E _ _ _ hE => ?_) ?_
  · simp [bD, S_check_team]
    exact ⟨_, _, ⟨rfl, rfl⟩, by omega, by omega, hE⟩
  refine seq_step [.val (bD n bt), .val (.int (t : Nat)), .no] (fun E _ _ _ hE => ?_) ?_
  · simp [bD]
    exact ⟨by omega, hE⟩
  refine seq_stepP (fun e => (ordN n n).find? (fun o => champB n bt o == t) = none) (fun E hrt _ _ hE => ?_) fun e he => ?_
  · simp [bD, S_orders_of]

    refine ⟨by omega, n, by rw [rgD_nat]; rfl, hn, ?_⟩
    refine for_ind (α := List Nat) _ (fun xs e => (∀ o ∈ xs, o ∈ ordN n n) ∧ xs.find? (fun o => champB n bt o == t) = (ordN n n).find? (fun o => champB n bt o == t) ∧ ∃ s, e = [.val (bD n bt), .val (.int (t : Nat)), s])
      (fun e h => ?_) (fun x xs e h R hR => ?_) _ _ ⟨fun o h => h, rfl, .no, rfl⟩
    · exact hE e h.2.1.symm
    · obtain ⟨h1, h2, s, rfl⟩ := h
      simp [S_raw_champion]
      refine ⟨n, bt, x, ⟨rfl, rfl⟩, hb, ordN_perm (h1 x List.mem_cons_self), ?_⟩
      by_cases hc : champB n bt x = t
      · right
        refine ⟨by omega, ?_⟩
        rw [hrt]
        rw [List.find?_cons, show (champB n bt x == t) = true by simp [hc]] at h2
        rw [← h2] at hq
        exact hq
      · left
        refine ⟨by omega, hR _ ⟨fun o ho => h1 o (List.mem_cons_of_mem _ ho), ?_, _, rfl⟩⟩
        rw [List.find?_cons, show (champB n bt x == t) = false by simp [hc]] at h2
        exact h2
  rw [he] at hq
  exact hq
theorem v__law_orders (J : GJ) (ds : List D) (q : D → Prop) (_ : ds.length = 1) (h : S__law_orders J ds q) : w__law_orders J (startE N__law_orders ds) (EndQ q) := by
  obtain ⟨n, rfl, hn, hq⟩ := h
  refine seq_step [.val (.int (n : Nat)), .val (.lst (ordD n 0)), .no, .no, .no, .no] (fun E _ _ _ hE => ?_) ?_
  · simp
    exact hE
  refine seq_stepP (fun e => ∃ s t u, e = [.val (.int (n : Nat)), .val (.lst (ordD n n)), s, t, u, .no]) (fun E _ _ _ hE => ?_) fun e he => ?_
  · simp
    refine ⟨by omega, ?_⟩
    rw [rgD_nat]
    refine for_ind (α := Nat) _ (fun xs e => ∃ (k : Nat) (s t u : Sl), k + xs.length = n ∧ e = [.val (.int (n : Nat)), .val (.lst (ordD n k)), s, t, u, .no])
      (fun e h => ?_) (fun x xs e h R hR => ?_) _ _ ⟨0, .no, .no, .no, by simp, rfl⟩
    · obtain ⟨k, s, t, u, h1, rfl⟩ := h
      simp at h1
      subst h1
      exact hE _ ⟨s, t, u, rfl⟩
    · obtain ⟨k, s, t, u, h1, rfl⟩ := h
      simp at h1
      have hk := ordN_len n hn k (by omega)
      refine seq_step [.val (.int (n : Nat)), .val (.lst (ordD n k)), .val (.int (x : Nat)), .own [], u, .no] (fun E' _ _ _ hE' => ?_) ?_
      · simpa using hE'
      refine seq_stepP (fun e => ∃ u, e = [.val (.int (n : Nat)), .val (.lst (ordD n k)), .val (.int (x : Nat)), .own (ordD n (k + 1)), u, .no]) (fun E' _ _ _ hE' => ?_) fun e he => ?_
      · simp
        refine for_ind (α := List Nat) (fun o => .tup (natD o)) (fun xs e => ∃ (pre : List (List Nat)) (u : Sl), pre ++ xs = ordN n k ∧ e = [.val (.int (n : Nat)), .val (.lst (ordD n k)), .val (.int (x : Nat)), .own ((pre.flatMap (extN n)).map fun o => .tup (natD o)), u, .no])
          (fun e h => ?_) (fun o os e h R' hR' => ?_) _ _ ⟨[], u, rfl, rfl⟩
        · obtain ⟨pre, u, h2, rfl⟩ := h
          rw [List.append_nil] at h2
          subst h2
          exact hE' _ ⟨u, rfl⟩
        · obtain ⟨pre, u, h2, rfl⟩ := h
          have ho := (ordN_mem k o (by rw [← h2]; simp)).1
          have hl : (pre.flatMap (extN n)).length + ((List.range n).filter (notB o)).length ≤ 720 := by
            have := ordN_len n hn (k + 1) (by omega)
            rw [ordN_succ, ← h2, List.flatMap_append, List.flatMap_cons, List.length_append, List.length_append, extN_length] at this
            omega
          simp
          refine ⟨by omega, rfl, ?_⟩
          rw [rgD_nat]
          refine lc_map (fun i : Nat => .int (i : Nat)) (fun i => .tup (natD (o ++ [i]))) (notB o) rfl _ _ (fun y hy k' hk' => ?_) (fun y hy _ k' hk' => ?_) (by simp; exact small_sz (by omega)) ?_
          · simp
            refine ⟨okEA_natD _ _, ?_⟩
            rw [inD_natD]
            unfold notB at hk'
            cases hc : o.contains y with
            | true => exact .inl ⟨rfl, by rw [hc] at hk'; exact hk'⟩
            | false => exact .inr ⟨rfl, by rw [hc] at hk'; exact hk'⟩
          · simp
            refine ⟨by rw [natD_length]; exact small_sz (by omega), ?_⟩
            simpa [natD] using hk'
          · refine ⟨_, rfl, ?_, hR' _ ⟨pre ++ [o], .val (.tup (natD o)), by simpa using h2, ?_⟩⟩
            · refine small_sz ?_
              rw [List.length_map]
              simp only [List.nil_append, List.length_map]
              omega
            · simp [extN]
      · obtain ⟨u, rfl⟩ := he
        simp
        exact hR _ ⟨k + 1, .val (.int (x : Nat)), .val (.lst (ordD n (k + 1))), u, by omega, rfl⟩
  obtain ⟨s, t, u, rfl⟩ := he
  exact hq
end DL

namespace DL
open PySem PySem.Spec PyProof.Rows L2
theorem cutD_lo (xs : List D) (k : Nat) (h : k ≤ xs.length) : cutD xs none (some (k : Int)) = xs.take k := by
  unfold cutD
  rw [HT.sIx_nat, HT.sIx_none, Nat.min_eq_left h]
  simp
theorem cutD_hi (xs : List D) (k : Nat) (h : k ≤ xs.length) : cutD xs (some (k : Int)) none = xs.drop k := by
  unfold cutD
  rw [HT.sIx_nat, HT.sIx_none, Nat.min_eq_left h]
  exact List.take_of_length_le (by simp)
theorem perm_ins {k p : Nat} {l : List Nat} (h : Perm8 k l) : Perm8 (k + 1) (l.take p ++ [k] ++ l.drop p) := by
  obtain ⟨h1, h2, h3⟩ := h
  have pm : (l.take p ++ [k] ++ l.drop p).Perm (k :: l) := by
    rw [List.append_assoc]
    refine (List.perm_middle (l₁ := l.take p) (a := k) (l₂ := l.drop p)).trans ?_
    rw [List.take_append_drop]
  refine ⟨by rw [pm.length_eq]; simp [h1], fun x hx => ?_, ?_⟩
  · have := pm.mem_iff.mp hx
    rcases List.mem_cons.mp this with rfl | hx
    · omega
    · have := h2 x hx
      omega
  · rw [pm.nodup_iff]
    exact List.nodup_cons.mpr ⟨fun z => by have := h2 k z; omega, h3⟩
theorem v__law_order (J : GJ) (ds : List D) (q : D → Prop) (_ : ds.length = 2) (h : S__law_order J ds q) : w__law_order J (startE N__law_order ds) (EndQ q) := by
  obtain ⟨a, n, rfl, hJ, hn, hq⟩ := h
  refine seq_step [.val (.tk a), .val (.int (n : Nat)), .val (.lst (natD [])), .no, .no] (fun E _ _ _ hE => ?_) ?_
  · simp
    exact hE
  refine seq_stepP (fun e => ∃ l s t, Perm8 n l ∧ e = [.val (.tk a), .val (.int (n : Nat)), .val (.lst (natD l)), s, t]) (fun E _ _ _ hE => ?_) fun e he => ?_
  · simp
    refine ⟨by omega, ?_⟩
    rw [rgD_nat, List.range_eq_range']
    refine for_ind (α := Nat) _ (fun xs e => ∃ (k : Nat) (l : List Nat) (s t : Sl), xs = List.range' k (n - k) ∧ k ≤ n ∧ Perm8 k l ∧ e = [.val (.tk a), .val (.int (n : Nat)), .val (.lst (natD l)), s, t])
      (fun e h => ?_) (fun x xs e h R hR => ?_) _ _ ⟨0, [], .no, .no, rfl, Nat.zero_le _, ⟨rfl, by simp, by simp⟩, rfl⟩
    · obtain ⟨k, l, s, t, h1, h2, h3, rfl⟩ := h
      have : n - k = 0 := by simpa using (congrArg List.length h1).symm
      obtain rfl : k = n := by omega
      exact hE _ ⟨l, s, t, h3, rfl⟩
    · obtain ⟨k, l, s, t, h1, h2, h3, rfl⟩ := h
      have hk : n - k = (n - (k + 1)) + 1 := by
        have := congrArg List.length h1
        simp at this
        omega
      rw [hk, List.range'_succ] at h1
      obtain ⟨rfl, rfl⟩ := List.cons.inj h1
      have hl := h3.1
      refine seq_stepP (fun e => ∃ p : Nat, p ≤ l.length ∧ e = [.val (.tk a), .val (.int (n : Nat)), .val (.lst (natD l)), .val (.int (x : Nat)), .val (.int (p : Nat))]) (fun E' _ _ _ hE' => ?_) fun e he => ?_
      · simp [natD_length, S__law_draw]
        refine ⟨_, _, ⟨rfl, rfl⟩, hJ, by omega, by omega, fun r h0 h1 => ?_⟩
        refine hE' _ ⟨r.toNat, by omega, ?_⟩
        simp [Int.toNat_of_nonneg h0]
      · obtain ⟨p, hp, rfl⟩ := he
        simp
        rw [cutD_lo _ _ (by rw [natD_length]; exact hp), cutD_hi _ _ (by rw [natD_length]; exact hp)]
        simp [natD_length]
        refine ⟨small_sz (by omega), small_sz (by omega), hR _ ⟨x + 1, l.take p ++ [x] ++ l.drop p, .val (.int (x : Nat)), .val (.int (p : Nat)), rfl, by omega, perm_ins h3, ?_⟩⟩
        simp [natD]
  obtain ⟨l, s, t, h3, rfl⟩ := he
  simp
  exact hq l h3
theorem dLook_put {κ : Type} [DecidableEq κ] (k : κ) (d : D) (k' : κ) : ∀ kvs : List (κ × D), dLook (dPut kvs k d) k' = if k' = k then some d else dLook kvs k' := by
  have rep : ∀ kvs : List (κ × D), dLook (kvs.map fun kv => if kv.1 = k then (kv.1, d) else kv) k' = if k' = k then (if (kvs.any fun kv => decide (kv.1 = k)) = true then some d else none) else dLook kvs k' := by
    intro kvs
    induction kvs with
    | nil => simp [dLook]
    | cons p r ih =>
      by_cases h1 : p.1 = k
      · by_cases h2 : k' = k
        · subst h2
          simp [dLook, h1]
        · have h3 : ¬ p.1 = k' := fun z => h2 (z.symm.trans h1)
          simp only [dLook, List.map_cons, if_pos h1, List.find?_cons, decide_eq_false h3, if_neg h2] at ih ⊢
          exact ih
      · by_cases h2 : p.1 = k'
        · have h3 : ¬ k' = k := fun z => h1 (h2.trans z)
          simp [dLook, h1, h2, h3]
        · have e1 : dLook ((p :: r).map fun kv => if kv.1 = k then (kv.1, d) else kv) k' = dLook (r.map fun kv => if kv.1 = k then (kv.1, d) else kv) k' := by
            simp [dLook, h1, h2]
          have e2 : dLook (p :: r) k' = dLook r k' := by simp [dLook, h2]
          rw [e1, e2, ih, List.any_cons, decide_eq_false h1, Bool.false_or]
  intro kvs
  unfold dPut
  split
  · rename_i h
    rw [rep, if_pos h]
  · rename_i h
    have hn : dLook kvs k = none := by
      simp only [dLook, Option.map_eq_none_iff, List.find?_eq_none]
      intro x hx hc
      exact h (List.any_eq_true.mpr ⟨x, hx, hc⟩)
    simp only [dLook, List.find?_append, Option.map_or] at hn ⊢
    by_cases h2 : k' = k
    · subst h2
      rw [if_pos rfl, hn]
      simp
    · have h3 : ¬ k = k' := fun z => h2 z.symm
      rw [if_neg h2]
      simp [h3]
theorem dPut_length {κ : Type} [DecidableEq κ] (kvs : List (κ × D)) (k : κ) (d : D) : (dPut kvs k d).length ≤ kvs.length + 1 := by
  unfold dPut
  split <;> simp
def k2 (i j : Nat) : List Key := [.inl (i : Nat), .inl (j : Nat)]
theorem k2_inj {i j i' j' : Nat} : k2 i j = k2 i' j' ↔ i = i' ∧ j = j' := by
  simp [k2]
  omega
/-- what is told of those below o, and of o with those below p -/
structure Told (o p : Nat) (b : Nat → Nat → Bool) (kvs : List (List Key × D)) : Prop where
  at_ : ∀ i j, i ≠ j → ((i < o ∧ j < o) ∨ (i = o ∧ j < p) ∨ (j = o ∧ i < p)) → dLook kvs (k2 i j) = some (.bl (b i j)) ∧ b i j = !b j i
  self : ∀ i, dLook kvs (k2 i i) = none
  len : kvs.length ≤ 20 * o + 2 * p
theorem Told.put {o p : Nat} {b : Nat → Nat → Bool} {kvs : List (List Key × D)} (h : Told o p b kvs) (hp : p < o) (c : Bool) :
    Told o (p + 1) (fun i j => if i = o ∧ j = p then c else if i = p ∧ j = o then !c else b i j) (dPut (dPut kvs (k2 o p) (.bl c)) (k2 p o) (.bl (!c))) := by
  have ne : o ≠ p := by omega
  refine ⟨fun i j hij hd => ?_, fun i => ?_, ?_⟩
  · rw [dLook_put, dLook_put]
    simp only [k2_inj]
    by_cases h1 : i = o ∧ j = p
    · obtain ⟨rfl, rfl⟩ := h1
      simp [ne, ne.symm]
    · by_cases h2 : i = p ∧ j = o
      · obtain ⟨rfl, rfl⟩ := h2
        simp [ne, ne.symm]
      · obtain ⟨h3, h4⟩ := h.at_ i j hij (by omega)
        have h5 : ¬ (j = o ∧ i = p) := by omega
        have h6 : ¬ (j = p ∧ i = o) := by omega
        rw [if_neg h2, if_neg h1, h3]
        simp only [if_neg h1, if_neg h2, if_neg h5, if_neg h6]
        exact ⟨trivial, h4⟩
  · rw [dLook_put, dLook_put]
    simp only [k2_inj]
    rw [if_neg (by omega), if_neg (by omega)]
    exact h.self i
  · have h1 := dPut_length kvs (k2 o p) (.bl c)
    have h2 := dPut_length (dPut kvs (k2 o p) (.bl c)) (k2 p o) (.bl (!c))
    have := h.len
    omega
theorem Told.next {o : Nat} {b : Nat → Nat → Bool} {kvs : List (List Key × D)} (h : Told o o b kvs) (ho : o ≤ 8) : Told (o + 1) 0 b kvs :=
  ⟨fun i j hij hd => h.at_ i j hij (by omega), h.self, by have := h.len; omega⟩
theorem v__law_beats (J : GJ) (ds : List D) (q : D → Prop) (_ : ds.length = 1) (h : S__law_beats J ds q) : w__law_beats J (startE N__law_beats ds) (EndQ q) := by
  obtain ⟨a, rfl, hJ, hq⟩ := h
  refine seq_stepP (fun e => ∃ n k : Nat, 1 ≤ n ∧ n ≤ 8 ∧ k < 4 ∧ e = [.val (.tk a), .val (.int (n : Nat)), .val (.int (k : Nat)), .no, .no, .no, .no]) (fun E _ _ _ hE => ?_) fun e he => ?_
  · simp [S__law_draw, S__law_any]
    refine ⟨_, _, ⟨rfl, rfl⟩, hJ, by omega, by omega, fun r h0 h1 => ?_⟩
    refine ⟨_, _, ⟨rfl, rfl⟩, hJ, by simp, by simp, ?_⟩
    have go : ∀ k : Nat, k < 4 → E.nx [.val (.tk a), .val (.int (1 + r)), .val (.int (k : Nat)), .no, .no, .no, .no] := fun k hk => hE _ ⟨(1 + r).toNat, k, by omega, by omega, hk, by rw [Int.toNat_of_nonneg (by omega)]⟩
    simp
    exact ⟨go 0 (by omega), go 1 (by omega), go 2 (by omega), go 3 (by omega)⟩
  obtain ⟨n, k, h1, h8, hk, rfl⟩ := he
  refine seq_step [.val (.tk a), .val (.int (n : Nat)), .val (.int (k : Nat)), .dt [], .no, .no, .no] (fun E _ _ _ hE => ?_) ?_
  · exact hE
  refine seq_stepP (fun e => ∃ b kvs s t u, Told n 0 b kvs ∧ s.isOwn = false ∧ t.isOwn = false ∧ e = [.val (.tk a), .val (.int (n : Nat)), .val (.int (k : Nat)), .dt kvs, s, t, u]) (fun E _ _ _ hE => ?_) fun e he => ?_
  · simp
    refine ⟨by omega, ?_⟩
    rw [rgD_nat, List.range_eq_range']
    refine for_ind (α := Nat) _ (fun xs e => ∃ (o : Nat) (b : Nat → Nat → Bool) (kvs : List (List Key × D)) (s t u : Sl), xs = List.range' o (n - o) ∧ o ≤ n ∧ Told o 0 b kvs ∧ s.isOwn = false ∧ t.isOwn = false ∧ e = [.val (.tk a), .val (.int (n : Nat)), .val (.int (k : Nat)), .dt kvs, s, t, u])
      (fun e h => ?_) (fun x xs e h R hR => ?_) _ _ ⟨0, fun _ _ => false, [], .no, .no, .no, rfl, Nat.zero_le _, ⟨fun i j _ h => by omega, fun i => rfl, by simp⟩, rfl, rfl, rfl⟩
    · obtain ⟨o, b, kvs, s, t, u, e1, e2, e3, e4, e5, rfl⟩ := h
      have : n - o = 0 := by simpa using (congrArg List.length e1).symm
      obtain rfl : o = n := by omega
      exact hE _ ⟨b, kvs, s, t, u, e3, e4, e5, rfl⟩
    · obtain ⟨o, b, kvs, s, t, u, e1, e2, e3, e4, e5, rfl⟩ := h
      have ho : n - o = (n - (o + 1)) + 1 := by
        have := congrArg List.length e1
        simp at this
        omega
      rw [ho, List.range'_succ] at e1
      obtain ⟨rfl, rfl⟩ := List.cons.inj e1
      simp
      refine ⟨by omega, ?_⟩
      rw [rgD_nat, List.range_eq_range']
      refine for_ind (α := Nat) _ (fun ys e => ∃ (p : Nat) (b : Nat → Nat → Bool) (kvs : List (List Key × D)) (t u : Sl), ys = List.range' p (x - p) ∧ p ≤ x ∧ Told x p b kvs ∧ t.isOwn = false ∧ e = [.val (.tk a), .val (.int (n : Nat)), .val (.int (k : Nat)), .dt kvs, .val (.int (x : Nat)), t, u])
        (fun e h => ?_) (fun y ys e h R' hR' => ?_) _ _ ⟨0, b, kvs, t, u, rfl, Nat.zero_le _, e3, e5, rfl⟩
      · obtain ⟨p, b, kvs, t, u, f1, f2, f3, f4, rfl⟩ := h
        have : x - p = 0 := by simpa using (congrArg List.length f1).symm
        obtain rfl : p = x := by omega
        exact hR _ ⟨p + 1, b, kvs, _, t, u, rfl, by omega, f3.next (by omega), rfl, f4, rfl⟩
      · obtain ⟨p, b, kvs, t, u, f1, f2, f3, f4, rfl⟩ := h
        have hp : x - p = (x - (p + 1)) + 1 := by
          have := congrArg List.length f1
          simp at this
          omega
        rw [hp, List.range'_succ] at f1
        obtain ⟨rfl, rfl⟩ := List.cons.inj f1
        refine seq_stepP (fun e => ∃ c : Bool, e = [.val (.tk a), .val (.int (n : Nat)), .val (.int (k : Nat)), .dt kvs, .val (.int (x : Nat)), .val (.int (y : Nat)), .val (.bl c)]) (fun E' _ _ _ hE' => ?_) fun e he => ?_
        · simp [S__law_draw]
          refine ⟨_, _, ⟨rfl, rfl⟩, hJ, by omega, by omega, fun r h0 h1 => ?_⟩
          have : k = 0 ∨ k = 1 ∨ k = 2 ∨ k = 3 := by omega
          rcases this with rfl | rfl | rfl | rfl
          · exact ⟨_, atI_nat (j := 0) rfl, hE' _ ⟨_, rfl⟩⟩
          · exact ⟨_, atI_nat (j := 1) rfl, hE' _ ⟨_, rfl⟩⟩
          · exact ⟨_, atI_nat (j := 2) rfl, hE' _ ⟨_, rfl⟩⟩
          · exact ⟨_, atI_nat (j := 3) rfl, hE' _ ⟨_, rfl⟩⟩
        obtain ⟨c, rfl⟩ := he
        refine seq_stepP (fun e => ∃ c : Bool, e = [.val (.tk a), .val (.int (n : Nat)), .val (.int (k : Nat)), .dt kvs, .val (.int (x : Nat)), .val (.int (y : Nat)), .val (.bl c)]) (fun E' _ _ _ hE' => ?_) fun e he => ?_
        · simp [S__law_draw]
          refine ⟨_, _, ⟨rfl, rfl⟩, hJ, by omega, by omega, fun r h0 h1 => ?_⟩
          by_cases hr : r = 0
          · exact .inr ⟨hr, hE' _ ⟨_, rfl⟩⟩
          · exact .inl ⟨hr, hE' _ ⟨_, rfl⟩⟩
        obtain ⟨c, rfl⟩ := he
        have hl := f3.len
        simp
        refine ⟨_, _, ⟨rfl, rfl⟩, small_sz (n := kvs.length + 1) (by omega), _, _, rfl, ?_, rfl, hR' _ ⟨y + 1, _, _, _, _, rfl, by omega, f3.put (by omega) c, rfl, rfl⟩⟩
        have := dPut_length kvs (k2 x y) (.bl c)
        exact small_sz (n := (dPut kvs (k2 x y) (.bl c)).length + 1) (by omega)
  obtain ⟨b, kvs, s, t, u, ht, hs, ht', rfl⟩ := he
  simp
  refine ⟨by omega, hs, ?_⟩
  rw [rgD_nat]
  have hbt : Beats n (fun i j => if i = j then false else b i j) := by
    refine ⟨h1, h8, fun i _ => by simp, fun i j hi hj hij => ?_⟩
    simp only [if_neg hij, if_neg (Ne.symm hij)]
    exact (ht.at_ i j hij (.inl ⟨hi, hj⟩)).2
  refine lc_map1 _ (fun i => .tup ((List.range n).map fun j => .bl (if i = j then false else b i j))) rfl _ (fun i hi k' hk' => ?_) (by simp; exact small_sz (by omega)) (hq n _ hbt)
  have hi := List.mem_range.mp hi
  simp
  refine ⟨by omega, ht', ?_⟩
  rw [rgD_nat]
  refine lc_map1 _ (fun j => .bl (if i = j then false else b i j)) rfl _ (fun j hj k'' hk'' => ?_) (by simp; exact small_sz (by omega)) ?_
  · have hj := List.mem_range.mp hj
    simp
    have e : (dLook kvs (k2 i j)).getD (.bl false) = .bl (if i = j then false else b i j) := by
      by_cases hij : i = j
      · subst hij
        rw [ht.self i]
        simp
      · rw [(ht.at_ i j hij (.inl ⟨hi, hj⟩)).1, if_neg hij]
        rfl
    have e' : (dLook kvs [Sum.inl (i : Int), Sum.inl (j : Int)]).getD (.bl false) = .bl (if i = j then false else b i j) := e
    rw [e']
    exact hk''
  · exact hk'
end DL

/-! V8: the drawn numbers. -/
namespace DL
open PySem PySem.Spec PyProof.Rows L2
abbrev hndE (a : Addr) (ns : List Int) (i d s k m : Int) (x y z : Sl) : En := [.lat a (HandD ns i d s k), .val (.int m), x, y, z]
theorem hx0 (ns : List Int) (i d s k : Int) : atI (HandD ns i d s k) 0 = some (.lst (ns.map D.int)) := atI_nat (j := 0) rfl
theorem hx1 (ns : List Int) (i d s k : Int) : atI (HandD ns i d s k) 1 = some (.int i) := atI_nat (j := 1) rfl
theorem hx2 (ns : List Int) (i d s k : Int) : atI (HandD ns i d s k) 2 = some (.int d) := atI_nat (j := 2) rfl
theorem hx3 (ns : List Int) (i d s k : Int) : atI (HandD ns i d s k) 3 = some (.int s) := atI_nat (j := 3) rfl
theorem hx4 (ns : List Int) (i d s k : Int) : atI (HandD ns i d s k) 4 = some (.int k) := atI_nat (j := 4) rfl
theorem hs1 (ns : List Int) (i d s k : Int) : ixN (HandD ns i d s k).length 1 = some 1 := rfl
theorem hs2 (ns : List Int) (i d s k : Int) : ixN (HandD ns i d s k).length 2 = some 2 := rfl
theorem hs3 (ns : List Int) (i d s k : Int) : ixN (HandD ns i d s k).length 3 = some 3 := rfl
theorem hs4 (ns : List Int) (i d s k : Int) : ixN (HandD ns i d s k).length 4 = some 4 := rfl
theorem v__law_draw (J : GJ) (a : Addr) (ns : List Int) (i d s k m : Int) (ok : HandOk ns i d s k) (h0 : 0 < m) (h1 : m < 1000000000) (E : DEnds)
    (hE' : ∀ (r : Int) (e : En) (ns : List Int) (i d s k : Int), 0 ≤ r → r < m → HandOk ns i d s k → e[0]? = some (.lat a (HandD ns i d s k)) → E.rt (.int r) e) :
    w__law_draw J (hndE a ns i d s k m .no .no .no) E := by
  refine seq_stepP (fun e => ∃ i d s x, HandOk ns i d s k ∧ e = hndE a ns i d s k m x .no .no) (fun E _ _ _ hE => ?_) fun e he => ?_
  · simp [hx0, hx1, hx2]
    have same : E.nx (hndE a ns i d s k m .no .no .no) := hE _ ⟨i, d, s, .no, ok, rfl⟩
    by_cases hd : d = 0
    · refine .inr ⟨hd, ?_⟩
      by_cases hi : i < (ns.length : Int)
      · have i0 := ok.i0
        have hi' : i.toNat < ns.length := by omega
        have hg : atI (ns.map D.int) i = some (.int ns[i.toNat]) := by
          have e := atI_nat (xs := ns.map D.int) (j := i.toNat) (v := .int ns[i.toNat]) (by simp [hi'])
          rwa [Int.toNat_of_nonneg i0] at e
        have hc := ok.cell _ (List.getElem_mem hi')
        have ok' : ∀ d' s', 0 ≤ d' → HandOk ns (i + 1) d' s' k := fun d' s' h => ⟨ok.len, ok.cell, by omega, h⟩
        refine .inr ⟨hi, _, hg, a, _, ⟨rfl, rfl⟩, 1, rfl, .int s, atI_nat (j := 3) rfl, ?_⟩
        refine ⟨.inr ⟨by decide, by decide⟩, .inr ⟨by decide, by decide⟩, by decide, a, _, ⟨rfl, rfl⟩, 3, rfl, ⟨by decide, by decide, by decide⟩, ?_⟩
        by_cases hb : 1000000000000000000 ≤ ns[i.toNat]
        · exact .inr ⟨by simp [hb], a, _, ⟨rfl, rfl⟩, 2, rfl, hE _ ⟨i + 1, ns[i.toNat], _, .val (.int ns[i.toNat]), ok' _ _ hc, rfl⟩⟩
        · exact .inl ⟨by simp [hb], hE _ ⟨i + 1, d, _, .val (.int ns[i.toNat]), ok' _ _ ok.d0, rfl⟩⟩
      · exact .inl ⟨by omega, same⟩
    · exact .inl ⟨hd, same⟩
  obtain ⟨i, d, s, x, ok, rfl⟩ := he
  refine seq_stepP (fun e => ∃ y, e = hndE a ns i d s k m x y .no) (fun E2 hrt _ _ hE => ?_) fun e he => ?_
  · simp [hx0, hx1, hx2]
    by_cases hd : d ≤ 0
    · exact .inl ⟨hd, hE _ ⟨.no, rfl⟩⟩
    · refine .inr ⟨by omega, h0, ⟨h0, by omega⟩, a, _, ⟨rfl, rfl⟩, 2, rfl, ?_⟩
      rw [hrt]
      exact hE' _ _ ns i (d / m) s k (Int.emod_nonneg _ (by omega)) (Int.emod_lt_of_pos _ h0) ⟨ok.len, ok.cell, ok.i0, Int.ediv_nonneg ok.d0 (by omega)⟩ rfl
  obtain ⟨y, rfl⟩ := he
  simp [hx3, hx4, hs4]
  refine ⟨a, _, ⟨rfl, rfl⟩, 4, rfl, .int s, atI_nat (j := 3) rfl, .int (k + 1), atI_nat (j := 4) rfl, ?_⟩
  have big : ∀ z : Int, CMul (z % 2147483647) (z % 2147483647 / 1009 + 69621) := fun z => .inl (by omega)
  have big2 : ∀ z : Int, CMul (z % 2147483647) (z % 2147483647 / 2003 + 40692) := fun z => .inl (by omega)
  refine ⟨.inl ⟨by decide, by decide⟩, .inr ⟨by decide, by decide⟩, by decide, ⟨by decide, by decide⟩, big _, by decide, ⟨by decide, by decide⟩, big2 _, by decide, ⟨by decide, by decide⟩, h0, ?_⟩
  exact hE' _ _ ns i d s (k + 1) (Int.emod_nonneg _ (by omega)) (Int.emod_lt_of_pos _ h0) ⟨ok.len, ok.cell, ok.i0, ok.d0⟩ rfl
end DL

/-! V9: a def that draws from the hand keeps its promise. -/
namespace DL
open PySem PySem.Spec PyProof.Rows L2
/-- what is left of J while the hand is in hand -/
def restJ (T : Addr → Prop) (I : Hp → Prop) (h1 : ∀ H H', (∀ b, T b → H' b = H b) → (∀ b φ, H b = some (.ext φ) → H' b = some (.ext φ)) → I H → I H') (h2 : ∀ H b, I H → T b → H b ≠ none) : GJ :=
  ⟨T, fun _ H => I H, fun _ H b i t => h2 H b i t, fun _ H _ H' i _ e x => h1 H H' e x i⟩
theorem c__law_draw {g : Bool} {P : Program} {w : World} {K : PySem.W.Frag} {mg : Str → Option Value} {base : Heap} (G : Glo mg) {f : Addr} {fd : FuncData} (Fu : L2.Fun K "_law_draw" "_law_draw" st__law_draw f fd) (hm : mg "_law_draw" = some (.ref f)) (hb : Binds K fd ["hand", "many"] []) :
    CalG g P w K mg base 1 "_law_draw" S__law_draw 2 := by
  refine ⟨f, fd, ["hand", "many"], fnG_of Fu sc__law_draw (fun vs H Q E h => h.1) fun cd A outer s H vs Q E hr ⟨hl, J, pr, F, ds, q, st8, ia, hS, k⟩ => ?_, hm, Fu.kp, hb⟩
  obtain ⟨a, m, rfl, ⟨T, I, hmt, hTa, hinv, hst, hat⟩, h0, h1, hq⟩ := hS
  obtain ⟨⟨c, ns, i, d, s', n, hc, ha, ok⟩, hI⟩ := (hinv F H).mp st8.inv
  obtain ⟨v0, v1, rfl, iv0, iv1⟩ := ia.two_inv
  cases iv0.tk_inv
  cases iv1.int_inv
  refine ⟨_, (b__law_draw (g := g) G (restJ T I hst hat) hr).run.nox, ?_⟩
  have ma : J.mt a := by rw [hmt]; exact .inl rfl
  have mT : ∀ b, T b → J.mt b := fun b t => by rw [hmt]; exact .inr t
  let pr' : Hp := fun b => open Classical in if F b = none ∧ ¬ J.mt b ∧ ∀ o, H b = some o → NT o then H b else none
  have pr1 : ∀ b o, F b = none → ¬ J.mt b → NT o → H b = some o → pr' b = some o := fun b o h1 h2 h3 h4 => (if_pos ⟨h1, h2, fun o' e => by rw [h4] at e; cases e; exact h3⟩).trans h4
  have pr2 : ∀ b o, pr' b = some o → F b = none ∧ ¬ J.mt b ∧ H b = some o ∧ NT o := fun b o e => by
    have e : (open Classical in if F b = none ∧ ¬ J.mt b ∧ ∀ o, H b = some o → NT o then H b else none) = some o := e
    split at e
    · rename_i h
      exact ⟨h.1, h.2.1, e, h.2.2 o e⟩
    · cases e
  have pr0 : ∀ b, J.mt b → pr' b = none := fun b m => if_neg fun z => z.2.1 m
  have st' : St8 (restJ T I hst hat) pr' F H := ⟨st8.sub, fun b o e => ⟨(pr2 b o e).2.2.1, (pr2 b o e).1⟩, hI, fun b t => ⟨(st8.mtF b (mT b t)).1, pr0 b (mT b t)⟩, fun b o e => e.elim (fun e => st8.nt b o (.inl e)) fun e => (pr2 b o e).2.2.2⟩
  have hand : IsA K mg F [.ref c, .int i, .int d, .int s', .int n] (HandD ns i d s' n) := .cons (.lst hc isA_ints) (.cons (.int _) (.cons (.int _) (.cons (.int _) (.cons (.int _) .nil))))
  have R : Rep K mg (restJ T I hst hat) pr' (hndE a ns i d s' n m .no .no .no) (L2.start N__law_draw [.ref a, .int m]) F H := by
    have R0 := start_rep (N := N__law_draw) (ds := [.tk a, .int m]) (vs := [.ref a, .int m]) st' ia
    refine ⟨st', rfl, fun j t o e1 e2 => ?_, fun j l t t' ne e1 e2 ht ht' => ?_⟩
    · cases j with
      | zero =>
        cases e1
        cases e2
        exact ⟨a, _, rfl, ha, ⟨hand, rfl⟩, (st8.mtF a ma).1, pr0 a ma, hTa⟩
      | succ j => exact R0.sl (j + 1) t o e1 e2
    · have one : ∀ {j : Nat} {t : Sl}, (hndE a ns i d s' n m .no .no .no)[j]? = some t → t.isOwn = true → j = 0 := fun {j t} e h => by
        match j, e with
        | 0, _ => rfl
        | 1, e => cases e; cases h
        | 2, e => cases e; cases h
        | 3, e => cases e; cases h
        | 4, e => cases e; cases h
        | j + 5, e => cases e
      exact absurd ((one e1 ht).trans (one e2 ht').symm) ne
  have out : ∀ {v : V} {r : Int} {e : En} {σ' : L2.St} {F' H' : Hp}, Rep K mg (restJ T I hst hat) pr' e σ' F' H' → Same F F' → Is K mg F' v (.int r) → 0 ≤ r → r < m → (∃ ns i d s k, HandOk ns i d s k ∧ e[0]? = some (.lat a (HandD ns i d s k))) → Q v H' := by
    rintro v r e σ' F' H' R' ff iv r0 r1 ⟨ns', i', d', s2, n', ok', e0⟩
    obtain ⟨vs', _, ha', ia', m'⟩ := lat_at R' e0
    have ha2 : HandAt a F' H' := by
      obtain ⟨u0, r0, rfl, j0, ia'⟩ := ia'.cons_inv
      obtain ⟨u1, r1, rfl, j1, ia'⟩ := ia'.cons_inv
      obtain ⟨u2, r2, rfl, j2, ia'⟩ := ia'.cons_inv
      obtain ⟨u3, r3, rfl, j3, ia'⟩ := ia'.cons_inv
      obtain ⟨u4, rfl, j4⟩ := ia'.one_inv
      obtain ⟨c', xs, rfl, hc', ic⟩ := j0.lst_inv
      rw [j1.int_inv, j2.int_inv, j3.int_inv, j4.int_inv] at ha'
      rw [ic.ints] at hc'
      exact ⟨c', ns', i', d', s2, n', hc', ha', ok'⟩
    have keep : ∀ b o, ¬ J.mt b → NT o → H b = some o → H' b = some o := fun b o mb t e => by
      cases hF : F b with
      | none => exact (R'.st.prk b o (pr1 b o hF mb t e)).1
      | some o' =>
        have e1 := st8.sub b o' hF
        rw [e] at e1
        cases e1
        exact R'.st.sub b o (ff b o hF)
    have mtF' : ∀ b, J.mt b → F' b = none ∧ pr b = none := fun b mb => by
      refine ⟨?_, (st8.mtF b mb).2⟩
      rw [hmt] at mb
      rcases mb with rfl | t
      · exact m'.f
      · exact (R'.st.mtF b t).1
    refine k (.int r) v F' H' ⟨⟨R'.st.sub, fun b o e => ?_, (hinv F' H').mpr ⟨ha2, R'.st.inv⟩, mtF', fun b o e => e.elim (fun e => R'.st.nt b o (.inl e)) fun e => st8.nt b o (.inr e)⟩, ff, keep, fun b o t e fe => ?_⟩ iv (hq r r0 r1)
    · obtain ⟨h1, h2⟩ := st8.prk b o e
      have mb : ¬ J.mt b := fun mb => by
        rw [(st8.mtF b mb).2] at e
        cases e
      exact R'.st.prk b o (pr1 b o h2 mb (st8.nt b o (.inr e)) h1)
    · by_cases mb : J.mt b
      · exact (mtF' b mb).1
      · exact (R'.st.prk b o (pr1 b o fe mb t e)).2
  refine ⟨pr', _, F, { nx := fun _ => False, rt := fun d e => ∃ r : Int, d = .int r ∧ 0 ≤ r ∧ r < m ∧ ∃ ns i d s k, HandOk ns i d s k ∧ e[0]? = some (.lat a (HandD ns i d s k)) }, R,
    v__law_draw _ a ns i d s' n m ok h0 h1 _ fun r e ns i d s k r0 r1 ok e0 => ⟨r, rfl, r0, r1, ns, i, d, s, k, ok, e0⟩,
    ⟨fun _ _ _ _ _ _ h => h.elim, fun d v e σ' F' H' R' ff iv ⟨r, ed, r0, r1, h⟩ => ?_, fun _ _ _ _ _ _ h => h.elim, fun _ _ _ _ _ _ h => h.elim⟩⟩
  subst ed
  exact out R' ff iv r0 r1 h
end DL

/-! X1: an own exception with a field, raised. -/
namespace DL
open PySem PySem.Spec PyProof.Rows L2

/-! ### C.m(e, ..): a def read off its class -/
theorem pe_clsfn {g : Bool} {X : Cx} {CX : CXT} {x m : Str} {C f : Addr} {mc : Value} {fd : FuncData} {ps : List Str} {sp : Sp} {E : XK} {k : Nat} {e : Expr} {es : List Expr} {t : TA} {p apos pos : Pos} {pl : Sem Bool} (hg : Gl X x) (hm : X.mg x = some (.ref C)) (r : ClX.CRead X.K C mc)
    (c : PySem.W.findCls X.K (.ref C) mc m = some (.val (.ref f))) (F : FnG g X.prog X.w X.K X.mg X.base CX k f fd ps sp) (hr : Rm g k X.A) (hk : PySem.W.keepIn X.K (.ref f) = true) (hb : Binds X.K fd ps []) (hx : Passes CX X E) (ha : PA X (e :: es) t)
    (hdb : (x == ("__debug__" : Str)) = false := by decide) (he : starEach (e :: es) X.env = (false, eval e X.env) :: starEach es X.env := by rfl) (hpl : (backTo pos (starEach es X.env)).any (·.1) = false := by rfl)
    (ht : eval (.Call (.Attribute (.Name x p) m apos) (e :: es) [] pos) X.env = (do
      let ov ← eval (.Name x p) X.env
      standAt apos.atName
      let (f, first) ← holding [ov] (getMethod ov m pl)
      callWith pos f first (backTo pos (starEach (e :: es) X.env)) (backToKw pos (keywordEach [] X.env))) := by rfl) :
    PE X (.Call (.Attribute (.Name x p) m apos) (e :: es) [] pos) (fun σ H Q => t σ H fun vs H1 => sp vs H1 Q E) := by
  refine ⟨fun pins s σ H Q I h => PySem.W.methodCall_KW (pl := pl) (ld_glob I hg hm ?_ hdb) ht⟩
  refine PySem.W.method_cls I.kIn r.ga (ClX.getcval_ok (v := .ref f) I r ⟨c, rfl⟩ fun s2 I2 => ?_)
  exact PySem.W.callWith_K (h₀ := X.base) I2.ok.mod.kin hk (thn (ha.run pos pins s2 σ H _ I2 h) fun us s3 ⟨vs, H1, I3, r3, q⟩ => ⟨I3.kIn, run_fnG F hr hb hx I3 r3 q⟩) he hpl

/-! ### the two __init__ -/
def inCls (i j : Nat) : Stmt := match topS i with
  | .ClassDef (body := b) .. => b.getD j (.Pass ⟨0, 0, 0, 0⟩)
  | s => s
abbrev st_pe : Stmt := inCls 8 0
abbrev st_tm : Stmt := inCls 9 0
theorem sc_pe : FnScope ["self"] ["self"] (defScope st_pe) := ⟨rfl, rfl, rfl, by decide +kernel, rfl, by decide +kernel, by decide +kernel⟩
theorem sc_tm : FnScope ["self", "most"] ["self", "most"] (defScope st_tm) := ⟨rfl, rfl, rfl, by decide +kernel, rfl, by decide +kernel, by decide +kernel⟩
def spPE (K : PySem.W.Frag) : Sp := fun vs H Q _ => ∃ a C, vs = [.ref a] ∧ OexC K C ∧ H a = some (exo a C none) ∧ Q .non H
def spTM (K : PySem.W.Frag) : Sp := fun vs H Q _ => ∃ a C y, vs = [.ref a, y] ∧ OexC K C ∧ PySem.W.findIn K (.ref C) "most" = some none ∧ H a = some (exo a C none) ∧ ∀ dx, H dx = none → dx ≠ a → Q .non (upd (upd H dx (exd dx [("most", y)])) a (exo a C (some dx)))
section
variable {g : Bool} {P : Program} {w : World} {K : PySem.W.Frag} {mg : Str → Option Value} {base : Heap}
theorem fn_pe {f : Addr} {fd : FuncData} (Fu : L2.Fun K "__init__" "PlayError.__init__" st_pe f fd) (mV : mg "ValueError" = none) (vV : PySem.W.findCls K (.type "ValueError") (.type "type") "__init__" = some (.val (.builtin "ValueError.__init__"))) :
    FnG g P w K mg base L2.CX0 1 f fd ["self"] (spPE K) := by
  refine fnG_of Fu sc_pe (fun vs H Q E ⟨a, C, h, _⟩ => by rw [h]; rfl) fun cd A outer s H vs Q E hr ⟨a, C, hv, T, ha, q⟩ => ?_
  subst hv
  refine ⟨_, pss_one (ps_expr (pe_veinit rfl mV vV (pa_cons (pv 0) pa_nil))), ?_⟩
  exact ⟨.ref a, rfl, a, C, [], rfl, by simp, T, ha, q⟩
/-- facts of the classes -/
structure ClsF (K : PySem.W.Frag) (mg : Str → Option Value) (CP CT fP fT : Addr) : Prop where
  mP : mg "PlayError" = some (.ref CP)
  rP : ClX.CRead K CP (.type "type")
  cP : PySem.W.findCls K (.ref CP) (.type "type") "__init__" = some (.val (.ref fP))
  kP : PySem.W.keepIn K (.ref fP) = true
  mT : mg "TooMany" = some (.ref CT)
  oT : OexC K CT
  iT : PySem.W.findIn K (.ref CT) "__init__" = some (some (.ref fT))
  tT : PySem.W.typeIn K (.ref fT) = some (.type "function")
  nT : PySem.W.findIn K (.ref CT) "most" = some none
  xT : XfC K CT
  eT : PySem.W.exmOne K (.ref CT) (.ref CT) = some true
theorem fn_tm {CP CT fP f : Addr} {fdP fd : FuncData} (T : ClsF K mg CP CT fP f) (FP : FnG g P w K mg base L2.CX0 1 fP fdP ["self"] (spPE K)) (bP : Binds K fdP ["self"] []) (Fu : L2.Fun K "__init__" "TooMany.__init__" st_tm f fd) :
    FnG g P w K mg base L2.CX0 2 f fd ["self", "most"] (spTM K) := by
  refine fnG_of Fu sc_tm (fun vs H Q E ⟨a, C, y, h, _⟩ => by rw [h]; rfl) fun cd A outer s H vs Q E hr ⟨a, C, y, hv, O, hn, ha, q⟩ => ?_
  subst hv
  refine ⟨_, pss_cons (ps_expr (pe_clsfn (m := "__init__") rfl T.mP T.rP T.cP FP hr T.kP bP L2.pass0 (pa_cons (pv 0) pa_nil))) (pss_one (ps_ost (f := "most") (pv 0) (pv 1))), ?_⟩
  refine ⟨.ref a, rfl, a, C, rfl, O, ha, y, rfl, .ref a, rfl, a, C, rfl, O, hn, .inl ⟨ha, fun dx n ne => ?_⟩⟩
  exact q dx n ne
theorem FnG.ok {CX : CXT} {k : Nat} {f : Addr} {fd : FuncData} {ps : List Str} {sp : Sp} (F : FnG false P w K mg base CX k f fd ps sp) : FnOk P w K mg base CX k f fd ps sp :=
  ⟨F.len, fun A o s H ar us vs Q E r => F.run A o s H ar us vs Q E ⟨r, fun h => nomatch h⟩⟩
end
end DL

/-! X2: rigged of more than six: TooMany(6). -/
namespace DL
open PySem PySem.Spec PyProof.Rows L2
/-- what stands beside the frozen things and J's own, as one heap that is to stay -/
theorem frame_of {J : GJ} {pr F H : Hp} (st8 : St8 J pr F H) : ∃ pr' : Hp, St8 J pr' F H ∧ ∀ F' H', St8 J pr' F' H' → Same F F' → Stp J pr F H F' H' := by
  let pr' : Hp := fun b => open Classical in if F b = none ∧ ¬ J.mt b ∧ ∀ o, H b = some o → NT o then H b else none
  have pr1 : ∀ b o, F b = none → ¬ J.mt b → NT o → H b = some o → pr' b = some o := fun b o h1 h2 h3 h4 => (if_pos ⟨h1, h2, fun o' e => by rw [h4] at e; cases e; exact h3⟩).trans h4
  have pr2 : ∀ b o, pr' b = some o → F b = none ∧ ¬ J.mt b ∧ H b = some o ∧ NT o := fun b o e => by
    have e : (open Classical in if F b = none ∧ ¬ J.mt b ∧ ∀ o, H b = some o → NT o then H b else none) = some o := e
    split at e
    · rename_i h
      exact ⟨h.1, h.2.1, e, h.2.2 o e⟩
    · cases e
  refine ⟨pr', ⟨st8.sub, fun b o e => ⟨(pr2 b o e).2.2.1, (pr2 b o e).1⟩, st8.inv, fun b m => ⟨(st8.mtF b m).1, if_neg fun z => z.2.1 m⟩, fun b o e => e.elim (fun e => st8.nt b o (.inl e)) fun e => (pr2 b o e).2.2.2⟩, fun F' H' s' ff => ?_⟩
  have keep : ∀ b o, ¬ J.mt b → NT o → H b = some o → H' b = some o := fun b o m t e => by
    cases hF : F b with
    | none => exact (s'.prk b o (pr1 b o hF m t e)).1
    | some o' =>
      have e1 := st8.sub b o' hF
      rw [e] at e1
      cases e1
      exact s'.sub b o (ff b o hF)
  refine ⟨⟨s'.sub, fun b o e => ?_, s'.inv, fun b m => ⟨(s'.mtF b m).1, (st8.mtF b m).2⟩, fun b o e => e.elim (fun e => s'.nt b o (.inl e)) fun e => st8.nt b o (.inr e)⟩, ff, keep, fun b o t e f => ?_⟩
  · obtain ⟨h1, h2⟩ := st8.prk b o e
    have m : ¬ J.mt b := fun m => by
      rw [(st8.mtF b m).2] at e
      cases e
    exact s'.prk b o (pr1 b o h2 m (st8.nt b o (.inr e)) h1)
  · by_cases m : J.mt b
    · exact (s'.mtF b m).1
    · exact (s'.prk b o (pr1 b o f m t e)).2
theorem nt_xd {fs : List (Str × V)} : NT (.xd fs) := fun _ z => by cases z
/-- rigged raises -/
def spRaise (K : PySem.W.Frag) (mg : Str → Option Value) (CT : Addr) : Sp := fun vs H _ E => vs.length = 2 ∧ ∃ (J : GJ) (pr F : Hp) (n : Nat) (bt : Nat → Nat → Bool) (t : Int), St8 J pr F H ∧ IsA K mg F vs [bD n bt, .int t] ∧ Beats n bt ∧ 6 < n ∧ 0 ≤ t ∧ t < n ∧
  ∀ F' H' d, Stp J pr F H F' H' → H' d = some (.xd [("most", .int 6)]) → E (.ref CT) (some d) H'
section
variable {P : Program} {w : World} {K : PySem.W.Frag} {mg : Str → Option Value} {base : Heap}
theorem fn_rigR {CP CT fP fT f : Addr} {fdT fd : FuncData} (G : Glo mg) (T : ClsF K mg CP CT fP fT) (FT : FnG false P w K mg base L2.CX0 2 fT fdT ["self", "most"] (spTM K)) (bT : Binds K fdT ["self", "most"] [])
    (cb : CalG false P w K mg base 3 "check_beats" S_check_beats 1) (ct : CalG false P w K mg base 3 "check_team" S_check_team 2) (Fu : L2.Fun K "rigged" "rigged" st_rigged f fd) : FnG false P w K mg base (L2.CX P w) 4 f fd ["beats", "team"] (spRaise K mg CT) := by
  refine fnG_of Fu sc_rigged (fun vs H Q E h => h.1) fun cd A outer s H vs Q E hr ⟨hl, J, pr, F, n, bt, t, st8, ia, hb, h6, t0, t1, k⟩ => ?_
  obtain ⟨pr', st', out⟩ := frame_of st8
  have nd : N_rigged.Nodup := sc_rigged.nd
  refine ⟨_, pss_cons (ds_expr (J := J) (de_call cb hr (by decide) (by rfl) (da_cons (db_of (de_var 0 (pv 0))) da_nil))).run
    (pss_cons (ds_expr (J := J) (de_call ct hr (by decide) (by rfl) (da_cons (db_of (de_callB cd_len (by rfl) G.b_len PySem.boot_len (da_cons (db_var 0 (pv 0)) da_nil))) (da_cons (db_of (de_var 1 (pv 1))) da_nil)))).run
    (pss_cons (ps_if (xT_of (J := J) (dt_cmp od_gt (db_of (de_callB cd_len (by rfl) G.b_len PySem.boot_len (da_cons (db_var 0 (pv 0)) da_nil))) (db_of (de_gi (by rfl) G.c_MOST_RIGGED)) (by with_unfolding_all rfl)))
      (pss_one (ps_raise rfl (takes_of rfl rfl rfl rfl) (pmk_oex (ds := []) (dvs := []) T.oT T.iT T.tT FT.ok hr.rm bT .nil L2.pass0 rfl T.mT (pa_cons (pe_glob (v := .int 6) rfl (show _ = some (Value.int 6 _) from G.c_MOST_RIGGED.choose_spec) ⟨_, rfl⟩) pa_nil))))
      pss_never) pss_never)), ?_⟩
  have R := start_rep (N := N_rigged) st' ia
  have e0 : startE N_rigged [bD n bt, .int t] = [.val (bD n bt), .val (.int t), .no] := rfl
  rw [e0] at R
  refine ⟨pr', _, F, { nx := fun e => e = [.val (bD n bt), .val (.int t), .no], rt := fun _ _ => False }, R, ?_, ⟨fun e1 σ1 F1 H1 R1 s1 he => ?_, fun _ _ _ _ _ _ _ _ _ h => h.elim, fun _ _ _ _ _ _ h => h.elim, fun _ _ _ _ _ _ h => h.elim⟩⟩
  · simp [S_check_beats]
    exact ⟨n, bt, rfl, hb⟩
  subst he
  refine ⟨pr', _, F1, { nx := fun e => e = [.val (bD n bt), .val (.int t), .no], rt := fun _ _ => False }, R1, ?_, ⟨fun e2 σ2 F2 H2 R2 s2 he => ?_, fun _ _ _ _ _ _ _ _ _ h => h.elim, fun _ _ _ _ _ _ h => h.elim, fun _ _ _ _ _ _ h => h.elim⟩⟩
  · simp [bD, S_check_team]
    exact ⟨_, _, ⟨rfl, rfl⟩, t0, t1⟩
  subst he
  refine ⟨pr', _, F2, fun b e => b = true, R2, ?_, fun b e3 F3 H3 R3 s3 hb3 => ?_⟩
  · simp [bD]
    omega
  subst hb3
  have sF : Same F F3 := (s1.trans s2).trans s3
  refine ⟨by decide, fun a na => ⟨a, CT, .int 6, rfl, T.oT, T.nT, upd_same, fun dx ndx ne => ?_⟩⟩
  have n3 : H3 dx = none := by rwa [upd_ne ne] at ndx
  refine ⟨rfl, dx, [("most", .int 6)], upd_same, by rw [upd_ne ne, upd_same], n3, ?_⟩
  have eH : upd (del (upd (upd (upd H3 a (exo a CT none)) dx (exd dx [("most", .int 6)])) a (exo a CT (some dx))) a) dx (.xd [("most", .int 6)]) = upd H3 dx (.xd [("most", .int 6)]) := by
    funext b
    by_cases h1 : b = dx
    · subst h1
      rw [upd_same, upd_same]
    · rw [upd_ne h1, upd_ne h1]
      by_cases h2 : b = a
      · subst h2
        rw [del_same, na]
      · rw [del_ne h2, upd_ne h2, upd_ne h1, upd_ne h2]
  have st := (R3.st.made (o := .xd [("most", .int 6)]) n3).st
  rw [← eH] at st
  exact k F3 _ dx (out F3 _ st sF) upd_same
end
end DL

/-! X3: a lambda that raises, handed to a def that tells the error's field. -/
namespace DL
open PySem PySem.Spec PyProof.Rows L2 LamX

abbrev st__law_most : Stmt := topS 33
theorem sc__law_most : FnScope ["call", "error"] ["call"] (defScope st__law_most) := ⟨rfl, rfl, rfl, by decide +kernel, rfl, by decide +kernel, by decide +kernel⟩
/-- told: try: return call() / except TooMany as error: return error.most -/
def TTmost (CT : Addr) : (XK → Hp → VK → Prop) → Hp → VK → Prop := fun tl H Q => tl (fun cls d H' => cls = .ref CT ∧ ∃ dd fs v, d = some dd ∧ H' dd = some (.xd fs) ∧ fs.lookup ("most" : Str) = some v ∧ Q v H') H fun _ _ => False
theorem PE.never {X : Cx} {e : Expr} {t : TE} (h : PE X e t) : PE X e (fun σ H _ => t σ H fun _ _ => False) := ⟨fun pins s σ H Q I q => thn (h.run pins s σ H _ I q) fun u s' ⟨v, H', _, _, z⟩ => z.elim⟩
theorem takes_len {X : Cx} {W : WX} (tk : Takes X W) : Takes X (fun cls d σ H => X.N.length = σ.length → W cls d σ H) := fun u s' ⟨a, B, sI, pins, σ, H, cls, d, e, I, nb, up, sky, na, os, ag, w⟩ =>
  tk u s' ⟨a, B, sI, pins, σ, H, cls, d, e, I, nb, up, sky, na, os, ag, w I.len.symm⟩
theorem most_gives {X : Cx} {q : Str} {g CP CT fP fT : Addr} {cdg : Value} (T : ClsF X.K X.mg CP CT fP fT) : GivesTo X ["call", "error"] "_law_most" (defScope st__law_most) g cdg (defBody st__law_most) "call" q (TTmost CT) := by
  intro f c' s H Q tl act hc h
  have nd : (["call", "error"] : List Str).Nodup := sc__law_most.nd
  refine ⟨_, pss_cons (ps_try_as (X := (cxOf C8.CX0 X.prog X.w X.K X.mg X.base ["call", "error"] "_law_most" (defScope st__law_most) g cdg X.A X.stack s H C8.E0).nox) (i := 1) (c := .ref CT)
      (tb := fun W D σ H => ∃ Ech : XK, (∀ cls d (σ' : L2.St) H', Ech cls d H' → 2 = σ'.length → W cls d σ' H') ∧ σ[0]? = some (some (.ref f)) ∧ H c' = some (CodeO c' q) ∧ tl Ech H fun _ _ => False)
      rfl rfl nd rfl rfl ⟨rfl, by decide, .inl T.mT⟩ takes0 (fun W pn xe tk _ => ?_) (fun a oe cls d pn hz hf => pss_one (ps_ret (pe_xf (n := "most") T.xT T.nT hz hf (pv 1))))) pss_never, ?_⟩
  · refine ⟨fun pins s' σ H' D I h' => ?_⟩
    obtain ⟨Ech, hW, h1, h2, h3⟩ := h'
    exact (pss_one (ps_expr (PE.never (act _ pn xe Ech _ _ (takes_len tk) hW)))).run pins s' σ H' D I ⟨h1, h2, h3⟩
  · refine ⟨fun cls d H' => cls = .ref CT ∧ ∃ dd fs v, d = some dd ∧ H' dd = some (.xd fs) ∧ fs.lookup ("most" : Str) = some v ∧ Q v H', fun cls d σ' H' ⟨e1, dd, fs, v, e2, e3, e4, e5⟩ hl => ?_, rfl, hc, h⟩
    subst e1
    refine ⟨true, T.eT, fun _ a na => ?_, fun z => nomatch z⟩
    have hσ : (σ'.set 1 (some (V.ref a)))[1]? = some (some (V.ref a)) := by
      exact List.getElem?_set_self (by omega)
    exact ⟨.ref a, hσ, rfl, rfl, dd, fs, v, e2, e3, e4, e5⟩
/-- J is a hand at a, beside tables of code objects -/
structure IsHandT (J : GJ) (a : Addr) (T0 : List (Addr × Str)) : Prop where
  mt : J.mt = fun b => b = a ∨ b ∈ T0.map (·.1)
  ne : a ∉ T0.map (·.1)
  inv : ∀ F H, J.inv F H ↔ HandAt a F H ∧ Tabs T0 H
theorem IsHandT.hand {J : GJ} {a : Addr} {T0 : List (Addr × Str)} (h : IsHandT J a T0) : IsHand J a :=
  ⟨fun b => b ∈ T0.map (·.1), Tabs T0, h.mt, h.ne, h.inv, fun H H' e x t p hp => by
    obtain ⟨ps, h1, h2, h3⟩ := t p hp
    refine ⟨ps, (e p.1 (List.mem_map.mpr ⟨p, hp, rfl⟩)).trans h1, h2, fun pos cv hcv => ?_⟩
    obtain ⟨c, e1, e2⟩ := h3 pos cv hcv
    exact ⟨c, e1, x c _ e2⟩, fun H b t hb => by
    obtain ⟨p, hp, rfl⟩ := List.mem_map.mp hb
    obtain ⟨ps, h1, _⟩ := t p hp
    rw [h1]
    simp⟩
end DL

/-! X4: the rule for _law_most(lambda: rigged(beats, _law_draw(hand, many))). -/
namespace DL
open PySem PySem.Spec PyProof.Rows L2 LamX
def wMost (J : GJ) (T0 : List (Addr × Str)) : WE := fun env q => ∃ (a : Addr) (n : Nat) (bt : Nat → Nat → Bool), env[0]? = some (.val (.tk a)) ∧ env[1]? = some (.val (bD n bt)) ∧ env[2]? = some (.val (.int n)) ∧ IsHandT J a T0 ∧ Beats n bt ∧ 6 < n ∧ q (.int 6) env
/-- tables of code objects have grown, nothing else has changed -/
theorem Rep.tables {K : PySem.W.Frag} {mg : Str → Option Value} {J : GJ} {pr F H H1 : Hp} {env : En} {σ : L2.St} {a : Addr} {T0 : List (Addr × Str)} (R : Rep K mg J pr env σ F H) (hJ : IsHandT J a T0) (e : ExtN H H1) (t : Tabs T0 H1) : Rep K mg J pr env σ F H1 := by
  have st := R.st
  refine R.stp ⟨⟨fun b o h => e b o (st.sub b o h) (st.nt b o (.inl h)), fun b o h => ⟨e b o (st.prk b o h).1 (st.nt b o (.inr h)), (st.prk b o h).2⟩, ?_, st.mtF, st.nt⟩, Same.refl _, fun b o _ n h => e b o h n, fun b o _ _ f => f⟩
  obtain ⟨⟨⟨c, ns, i, d, s, k, h1, h2, h3⟩⟩, _⟩ := (hJ.inv F H).mp st.inv
  exact (hJ.inv F H1).mpr ⟨⟨c, ns, i, d, s, k, h1, e a _ h2 nt_lst, h3⟩, t⟩
/-- what must stand for that -/
structure MostF (P : Program) (w : World) (K : PySem.W.Frag) (mg : Str → Option Value) (base : Heap) (T0 : List (Addr × Str)) (c P0 : Addr) : Prop where
  ex : ∃ (g CP CT fP fT fR : Addr) (fdR : FuncData) (oc dV kV doc pm cdv ct : Value) (od an : Option Addr) (osl : Array (Option Value)) (pg : Arguments),
    ClsF K mg CP CT fP fT ∧ FnG false P w K mg base (L2.CX P w) 4 fR fdR ["beats", "team"] (spRaise K mg CT) ∧ mg "rigged" = some (.ref fR) ∧ PySem.W.keepIn K (.ref fR) = true ∧ Binds K fdR ["beats", "team"] [] ∧
    CalG false P w K mg base 1 "_law_draw" S__law_draw 2 ∧ mg "_law_most" = some (.ref g) ∧ PySem.W.keepIn K (.ref g) = true ∧
    K.lookup g = some ⟨oc, od, .func (PySem.W.fnOf "_law_most" "_law_most" pg (defBody st__law_most) (defScope st__law_most) dV kV doc pm an cdv ct), osl⟩ ∧ PySem.W.codeIn K cdv "_law_most" = true ∧
    Binds K (PySem.W.fnOf "_law_most" "_law_most" pg (defBody st__law_most) (defScope st__law_most) dV kV doc pm an cdv ct) ["call"] []
  tb : TabB base mg c P0
theorem de_most {X : Cx} {J : GJ} {T0 : List (Addr × Str)} {c P0 : Addr} {params : Arguments} {scope : Scope} {p p1 p2 p3 p4 p5 p6 p7 lpos pos : Pos} (M : MostF X.prog X.w X.K X.mg X.base T0 c P0) (hcode : X.env.code = .ref c) {qn : Str} (hqn : X.env.qual = qn) (hmT : (P0, qn ++ "<lambda>") ∈ T0) (hu : ∀ p ∈ T0, p.1 = P0 → p.2 = qn ++ "<lambda>")
    (hr : Rm true 6 X.A) (hg : Gl X "_law_most") (L : LamS X.env.scope scope) (g1 : scope.names.lookup ("rigged" : Str) = some .globalImplicit) (g2 : scope.names.lookup ("_law_draw" : Str) = some .globalImplicit) (v0 : Vis scope "hand") (v1 : Vis scope "beats") (v2 : Vis scope "many")
    (n0 : X.N[0]? = some ("hand" : Str)) (n1 : X.N[1]? = some ("beats" : Str)) (n2 : X.N[2]? = some ("many" : Str)) (hdef : defaultsOf params X.env = ([], []))
    (hbind : ∀ (q : Str) (cl : List (Str × Addr)) (pm cv ctv : Value), bindArgs (PySem.W.kla_fn "<lambda>" q params (.Call (.Name "rigged" p1) [.Name "beats" p2, .Call (.Name "_law_draw" p3) [.Name "hand" p4, .Name "many" p5] [] p6] [] p7) scope cl pm cv ctv) ⟨[], []⟩ = pure []) :
    DE X J (.Call (.Name "_law_most" p) [.Lambda params (.Call (.Name "rigged" p1) [.Name "beats" p2, .Call (.Name "_law_draw" p3) [.Name "hand" p4, .Name "many" p5] [] p6] [] p7) scope lpos] [] pos) (wMost J T0) := by
  subst hqn
  obtain ⟨⟨g, CP, CT, fP, fT, fR, fdR, oc, dV, kV, doc, pm, cdv, ct, od, an, osl, pg, T, FR, mR, kR, bR, cd, mM, kM, lk, hcg, bM⟩, TB⟩ := M
  refine ⟨fun pr => PE.imp (pe_lamcall (k := 4) (a := "call") (TT := TTmost CT) (t := fun E σ H Q => tAr X.K X.mg J pr (wCons (wOf (wVar 1)) (wCons (wOf (wCall J S__law_draw 2 (wCons (wOf (wVar 0)) (wCons (wOf (wVar 2)) wNil)))) wNil)) σ H fun vs H1 => spRaise X.K X.mg CT vs H1 Q E)
    hg mM kM lk hcg bM sc__law_most rfl (.inl rfl) (most_gives T) TB hcode hmT hu hr.rm L hdef hbind (fun A outer s H E f c' hr' => ?_)) fun σ H Q ⟨env, F, q, R, ⟨a, n, bt, e0, e1, e2, hJ, hb, h6, hq⟩, k⟩ => ?_⟩
  · have hr2 : Rm false 4 (lamCx X A outer s H E scope f c').A := ⟨hr', fun z => nomatch z⟩
    have cd' : CalG false (lamCx X A outer s H E scope f c').prog (lamCx X A outer s H E scope f c').w (lamCx X A outer s H E scope f c').K (lamCx X A outer s H E scope f c').mg (lamCx X A outer s H E scope f c').base 1 "_law_draw" S__law_draw 2 := cd
    have hda : DA (lamCx X A outer s H E scope f c') J [.Name "beats" p2, .Call (.Name "_law_draw" p3) [.Name "hand" p4, .Name "many" p5] [] p6] (wCons (wOf (wVar 1)) (wCons (wOf (wCall J S__law_draw 2 (wCons (wOf (wVar 0)) (wCons (wOf (wVar 2)) wNil)))) wNil)) :=
      da_cons (db_of (de_var 1 (pv 1 n1 v1))) (da_cons (db_of (de_call cd' hr2 (by decide) g2 (da_cons (db_of (de_var 0 (pv 0 n0 v0))) (da_cons (db_of (de_var 2 (pv 2 n2 v2))) da_nil)))) da_nil)
    have hx : Passes (L2.CX (lamCx X A outer s H E scope f c').prog (lamCx X A outer s H E scope f c').w) (lamCx X A outer s H E scope f c') E := passes_call (takes_of rfl rfl rfl rfl) fun _ _ _ _ h => h
    exact pe_callG (X := lamCx X A outer s H E scope f c') FR hr2 g1 mR kR bR hx (hda.run pr)
  · refine ⟨((hJ.inv F H).mp R.st.inv).2, fun H1 eN t1 => ?_⟩
    have R1 := R.tables hJ eN t1
    refine ⟨env, F, fun as e => e = env ∧ ∃ t : Int, as = [.d (bD n bt), .d (.int t)] ∧ 0 ≤ t ∧ t < n, R1, ?_, fun as e' vs F' H' R' s' i' ⟨he, t, ha, t0, tn⟩ => ?_⟩
    · simp only [wCons, wOf, wVar, wNil, wCall, e0, e1, e2]
      refine ⟨_, rfl, rfl, a, n, rfl, hJ.hand, by omega, by have := hb.hi; omega, fun r r0 r1 => ⟨trivial, r, rfl, r0, r1⟩⟩
    · subst he
      subst ha
      have ia : IsA X.K X.mg F' vs [bD n bt, .int t] := i'.real rfl
      refine ⟨by rw [ia.length]; rfl, J, pr, F', n, bt, t, R'.st, ia, hb, h6, t0, tn, fun F'' H'' d tt hd => ?_⟩
      exact ⟨rfl, d, [("most", .int 6)], .int 6, rfl, hd, rfl, k (.int 6) _ (.int 6) F'' H'' (R'.stp tt) (s'.trans tt.ff) (.int 6) hq⟩
end DL

namespace DL
open PySem PySem.Spec PyProof.Rows L2
def qnC : Str := ("_law_is_case_right" : Str) ++ ".<locals>."
def S__law_is_case_right (T0 : List (Addr × Str)) : Spec := fun J ds q => ∃ a n bt, ds = [.tk a, bD n bt] ∧ IsHandT J a T0 ∧ Beats n bt ∧ q (.bl true)


/-! ### _law_is_case_right: slots 0 hand, 1 beats, 2 many, 3 turn, 4 order, 5 first, 6 team -/
abbrev st__law_is_case_right : Stmt := topS 34
abbrev N__law_is_case_right : List Str := ["hand", "beats", "many", "turn", "order", "first", "team"]
theorem sc__law_is_case_right : FnScope N__law_is_case_right ["hand", "beats"] (defScope st__law_is_case_right) := ⟨rfl, rfl, rfl, by decide +kernel, rfl, by decide +kernel, by decide +kernel⟩
def w__law_is_case_right (T0 : List (Addr × Str)) (J : GJ) : WS := sSeq (sSet 2 (wVal (wPr oLen (wCons (wB 1) wNil)))) (sSeq (sIf (wTNot (wTB (wCall J S__law_like 2 (wCons (wOf (wCall J S_kings 1 (wCons (wOf (wVar 1)) wNil))) (wCons (wOf (wCall J S__law_kings 1 (wCons (wOf (wVar 1)) wNil))) wNil))))) (sRet (wC (.bl false))) sNil) (sSeq (sFor (wR1 (wCons (wOf (wC (.int 6))) wNil)) (gN 3) (sSeq (sSet 4 (wVal (wCall J S__law_order 2 (wCons (wOf (wVar 0)) (wCons (wOf (wVar 2)) wNil))))) (sIf (wTNot (wTB (wCall J S__law_like 2 (wCons (wOf (wCall J S_champion 2 (wCons (wOf (wVar 1)) (wCons (wOf (wVar 4)) wNil)))) (wCons (wOf (wCall J S__law_champion 2 (wCons (wOf (wVar 1)) (wCons (wOf (wVar 4)) wNil)))) wNil))))) (sRet (wC (.bl false))) sNil))) (sSeq (sIf (wTB (w2 oGt (wB 2) (wOf (wC (.int 6))))) (sRet (wCall J S__law_like 2 (wCons (wOf (wMost J T0)) (wCons (wOf (wC (.int 6))) wNil)))) sNil) (sSeq (sSet 5 wNewK) (sSeq (sFor (wIs (wCall J S__law_orders 1 (wCons (wOf (wVar 2)) wNil))) (gN 4) (sDrop (wSetd 5 (wCall J S__law_champion 2 (wCons (wOf (wVar 1)) (wCons (wOf (wVar 4)) wNil))) (wVar 4)))) (sSeq (sFor (wR1 (wCons (wOf (wVar 2)) wNil)) (gN 6) (sIf (wTNot (wTB (wCall J S__law_like 2 (wCons (wOf (wCall J S_rigged 2 (wCons (wOf (wVar 1)) (wCons (wOf (wVar 6)) wNil)))) (wCons (wOf (wGet1k 5 (wVar 6))) wNil))))) (sRet (wC (.bl false))) sNil)) (sRet (wC (.bl true)))))))))
theorem b__law_is_case_right {P : Program} {w : World} {K : PySem.W.Frag} {mg : Str → Option Value} {base : Heap} (G : Glo mg) (c_kings : CalG true P w K mg base 4 "kings" S_kings 1) (c__law_kings : CalG true P w K mg base 1 "_law_kings" S__law_kings 1) (c__law_like : CalG true P w K mg base 1 "_law_like" S__law_like 2) (c__law_order : CalG true P w K mg base 2 "_law_order" S__law_order 2) (c_champion : CalG true P w K mg base 4 "champion" S_champion 2) (c__law_champion : CalG true P w K mg base 1 "_law_champion" S__law_champion 2) (c__law_orders : CalG true P w K mg base 1 "_law_orders" S__law_orders 1) (c_rigged : CalG true P w K mg base 4 "rigged" S_rigged 2) (T0 : List (Addr × Str)) (J : GJ) {fa : Addr} {cd : Value} {A : Around} {outer : List Env} {s : Shared} {H : Hp} {E : XK} (hr : Rm true 6 (A.deeper (envOfC "_law_is_case_right" (defScope st__law_is_case_right) s.heap.objs.size fa cd))) {c P0 : Addr} (M : MostF P w K mg base T0 c P0) (hcd : cd = .ref c) (hmT : (P0, qnC ++ "<lambda>") ∈ T0) (hu : ∀ p ∈ T0, p.1 = P0 → p.2 = qnC ++ "<lambda>") :
    DSs (cxOf L2.CX0 P w K mg base N__law_is_case_right "_law_is_case_right" (defScope st__law_is_case_right) fa cd A outer s H E).nox J (defBody st__law_is_case_right) (w__law_is_case_right T0 J) := by
  have nd : N__law_is_case_right.Nodup := sc__law_is_case_right.nd
  have gd := hr.gd rfl
  have u64 := hr.rm.units
  have u65 : (A.deeper (envOfC "_law_is_case_right" (defScope st__law_is_case_right) s.heap.objs.size fa cd)).units + 65 < cLine := by have := hr.rm.un; omega
  have u1 : (A.deeper (envOfC "_law_is_case_right" (defScope st__law_is_case_right) s.heap.objs.size fa cd)).units + 1 < cLine := by have := hr.rm.un; omega
  exact (dss_cons (ds_set nd rfl (by first | exact .inl rfl | exact .inr rfl) (dv_of (de_callB cd_len rfl G.b_len PySem.boot_len (da_cons (db_var 1 (pv 1)) da_nil)))) (dss_cons (ds_if (dt_not (dt_val (de_call c__law_like hr (by decide) rfl (da_cons (db_of (de_call c_kings hr (by decide) rfl (da_cons (db_of (de_var 1 (pv 1))) da_nil))) (da_cons (db_of (de_call c__law_kings hr (by decide) rfl (da_cons (db_of (de_var 1 (pv 1))) da_nil))) da_nil))))) (dss_one (ds_ret de_bl)) dss_nil) (dss_cons (ds_for PassesOwn.never rfl (di_r1 (by rfl) G.b_range (da_cons (db_of de_int) da_nil)) (dg_name 3 (L2.pg_name nd rfl (by first | exact .inl rfl | exact .inr rfl))) (dss_cons (ds_set nd rfl (by first | exact .inl rfl | exact .inr rfl) (dv_of (de_call c__law_order hr (by decide) rfl (da_cons (db_of (de_var 0 (pv 0))) (da_cons (db_of (de_var 2 (pv 2))) da_nil))))) (dss_one (ds_if (dt_not (dt_val (de_call c__law_like hr (by decide) rfl (da_cons (db_of (de_call c_champion hr (by decide) rfl (da_cons (db_of (de_var 1 (pv 1))) (da_cons (db_of (de_var 4 (pv 4))) da_nil)))) (da_cons (db_of (de_call c__law_champion hr (by decide) rfl (da_cons (db_of (de_var 1 (pv 1))) (da_cons (db_of (de_var 4 (pv 4))) da_nil)))) da_nil))))) (dss_one (ds_ret de_bl)) dss_nil)))) (dss_cons (ds_if (dt_cmp od_gt (db_var 2 (pv 2)) (db_of de_int) (by with_unfolding_all rfl)) (dss_one (ds_ret (de_call c__law_like hr (by decide) (by rfl) (da_cons (db_of (de_most M hcd (by rfl) hmT hu (hr.mono (by decide)) (by rfl) (LamX.lamS_by (by kernel_rfl)) (by rfl) (by rfl) (.inr (.inr (by rfl))) (.inr (.inr (by rfl))) (.inr (.inr (by rfl))) (by rfl) (by rfl) (by rfl) (by rfl) (by intros; rfl))) (da_cons (db_of de_int) da_nil))))) dss_nil) (dss_cons (ds_set nd rfl (by first | exact .inl rfl | exact .inr rfl) dv_dK) (dss_cons (ds_for PassesOwn.never rfl (di_seq (de_call c__law_orders hr (by decide) rfl (da_cons (db_of (de_var 2 (pv 2))) da_nil))) (dg_name 4 (L2.pg_name nd rfl (by first | exact .inl rfl | exact .inr rfl))) (dss_one (ds_expr (de_setd (pv 5) (de_call c__law_champion hr (by decide) rfl (da_cons (db_of (de_var 1 (pv 1))) (da_cons (db_of (de_var 4 (pv 4))) da_nil))) (de_var 4 (pv 4)) ⟨rfl, rfl, rfl, rfl⟩)))) (dss_cons (ds_for PassesOwn.never rfl (di_r1 (by rfl) G.b_range (da_cons (db_of (de_var 2 (pv 2))) da_nil)) (dg_name 6 (L2.pg_name nd rfl (by first | exact .inl rfl | exact .inr rfl))) (dss_one (ds_if (dt_not (dt_val (de_call c__law_like hr (by decide) rfl (da_cons (db_of (de_call c_rigged hr (by decide) rfl (da_cons (db_of (de_var 1 (pv 1))) (da_cons (db_of (de_var 6 (pv 6))) da_nil)))) (da_cons (db_of (de_get1k u1 (pv 5) (de_var 6 (pv 6)) ⟨rfl, rfl, rfl, rfl⟩)) da_nil))))) (dss_one (ds_ret de_bl)) dss_nil))) (dss_one (ds_ret de_bl)))))))))

end DL

/-! V10: one case of the law. -/
namespace DL
open PySem PySem.Spec PyProof.Rows L2
theorem okSA_natD (l : List Nat) (h : ∀ x ∈ l, x < 1000) : okSA (natD l) = true := by
  induction l with
  | nil => rfl
  | cons x xs ih =>
    have e : okSA (natD (x :: xs)) = (okS (.int (x : Nat)) && okSA (natD xs)) := rfl
    rw [e, ih fun y hy => h y (List.mem_cons_of_mem _ hy), Bool.and_true]
    have hx := h x List.mem_cons_self
    simp only [okS, decide_eq_true_eq, Int.natAbs_natCast]
    by_cases h0 : x = 0
    · subst h0
      decide
    · have := (Nat.log2_lt h0 (k := 10)).mpr (by omega)
      omega
theorem okS_int {x : Nat} (h : x < 1000) : okS (.int (x : Nat)) = true := by
  have := okSA_natD [x] (by simpa using h)
  simpa [natD] using this
theorem rlA_natD (l : List Nat) : rlA (natD l) = l.length * 1923 := by
  induction l with
  | nil => rfl
  | cons x xs ih =>
    have e : rlA (natD (x :: xs)) = 1921 + 2 + rlA (natD xs) := rfl
    rw [e, ih, List.length_cons]
    omega
theorem like_nat (l : List Nat) (h1 : l.length ≤ 100) (h2 : ∀ x ∈ l, x < 1000) : okE 60 (.tup (natD l)) = true ∧ okS (.tup (natD l)) = true ∧ rl (.tup (natD l)) ≤ sizeLine := by
  refine ⟨?_, ?_, ?_⟩
  · simp [okEA_natD]
  · show okSA (natD l) = true
    exact okSA_natD l h2
  · show rlA (natD l) + 4 ≤ sizeLine
    rw [rlA_natD]
    exact small_sz (by omega)
theorem like_int {x : Nat} (h : x < 1000) : okE 60 (.int (x : Nat)) = true ∧ okS (.int (x : Nat)) = true ∧ rl (.int (x : Nat)) ≤ sizeLine := ⟨rfl, okS_int h, small_sz (n := 1921) (by omega)⟩
theorem champ_lt {bt : Nat → Nat → Bool} {n : Nat} : ∀ (f : Nat) (l : List Nat), l ≠ [] → (∀ x ∈ l, x < n) → champ bt f l < n
  | 0, l, h, hm => by
    cases l with
    | nil => exact absurd rfl h
    | cons x r => exact hm x List.mem_cons_self
  | f + 1, l, h, hm => by
    by_cases hl : l.length ≤ 1
    · rw [champ_one hl]
      cases l with
      | nil => exact absurd rfl h
      | cons x r => exact hm x List.mem_cons_self
    · rw [champ_step hl]
      refine champ_lt f _ (fun z => ?_) (roundL_mem l hm)
      have := congrArg List.length z
      rw [roundL_length] at this
      simp at this
      omega
theorem champB_lt {n : Nat} {bt : Nat → Nat → Bool} {l : List Nat} (h : 1 ≤ n) (hp : Perm8 n l) : champB n bt l < n := by
  refine champ_lt n l (fun z => ?_) hp.2.1
  have := hp.1
  rw [z] at this
  simp at this
  omega
/-- the first order that brings t to the top -/
def firstO (n : Nat) (bt : Nat → Nat → Bool) (os : List (List Nat)) (t : Nat) : Option D := (os.find? fun o => champB n bt o == t).map fun o => .tup (natD o)
structure Firsts (n : Nat) (bt : Nat → Nat → Bool) (os : List (List Nat)) (kvs : List (Key × D)) : Prop where
  at_ : ∀ t : Nat, dLook kvs (.inl (t : Int)) = firstO n bt os t
  len : kvs.length ≤ os.length
theorem Firsts.skip {n : Nat} {bt : Nat → Nat → Bool} {os : List (List Nat)} {kvs : List (Key × D)} {o : List Nat} (h : Firsts n bt os kvs) {d : D} (e : dLook kvs (.inl (champB n bt o : Int)) = some d) : Firsts n bt (os ++ [o]) kvs := by
  refine ⟨fun t => ?_, by have := h.len; simp; omega⟩
  rw [h.at_ t]
  unfold firstO
  rw [List.find?_append]
  by_cases ht : champB n bt o = t
  · subst ht
    have e2 := h.at_ (champB n bt o)
    rw [e] at e2
    unfold firstO at e2
    cases hf : os.find? (fun o' => champB n bt o' == champB n bt o) with
    | none => rw [hf] at e2; cases e2
    | some o' => simp [hf]
  · simp [ht]
theorem Firsts.put {n : Nat} {bt : Nat → Nat → Bool} {os : List (List Nat)} {kvs : List (Key × D)} {o : List Nat} (h : Firsts n bt os kvs) (e : dLook kvs (.inl (champB n bt o : Int)) = none) : Firsts n bt (os ++ [o]) (dPut kvs (.inl (champB n bt o : Int)) (.tup (natD o))) := by
  refine ⟨fun t => ?_, by have := h.len; have := dPut_length kvs (.inl (champB n bt o : Int)) (.tup (natD o)); simp; omega⟩
  rw [dLook_put]
  unfold firstO
  rw [List.find?_append]
  by_cases ht : champB n bt o = t
  · subst ht
    rw [if_pos rfl]
    have e2 := h.at_ (champB n bt o)
    rw [e] at e2
    unfold firstO at e2
    have e3 : os.find? (fun o' => champB n bt o' == champB n bt o) = none := by
      cases hf : os.find? (fun o' => champB n bt o' == champB n bt o) with
      | none => rfl
      | some o' => rw [hf] at e2; cases e2
    rw [e3]
    simp
  · have hk : ¬ (Sum.inl (t : Int) : Key) = .inl (champB n bt o : Int) := by
      intro z
      cases z
      omega
    rw [if_neg hk, h.at_ t]
    simp [firstO, ht]
theorem v__law_is_case_right (T0 : List (Addr × Str)) (J : GJ) (ds : List D) (q : D → Prop) (_ : ds.length = 2) (h : S__law_is_case_right T0 J ds q) : w__law_is_case_right T0 J (startE N__law_is_case_right ds) (EndQ q) := by
  obtain ⟨a, n, bt, rfl, hJ, hb, hq⟩ := h
  have := hb.lo
  have := hb.hi
  refine seq_step [.val (.tk a), .val (bD n bt), .val (.int (n : Nat)), .no, .no, .no, .no] (fun E _ _ _ hE => ?_) ?_
  · simpa [bD] using hE
  refine seq_step [.val (.tk a), .val (bD n bt), .val (.int (n : Nat)), .no, .no, .no, .no] (fun E _ _ _ hE => ?_) ?_
  · simp [S_kings, S__law_kings, S__law_like]
    obtain ⟨h1, h2, h3⟩ := like_nat (kingsL n bt) (by have := filt_len (n := n) (kingB n bt); unfold kingsL; omega) (fun x hx => by have := List.mem_range.mp (List.mem_filter.mp hx).1; omega)
    exact ⟨n, bt, rfl, hb, n, bt, rfl, hb, _, ⟨rfl, rfl⟩, h1, h2, h3, hE⟩
  refine seq_stepP (fun e => ∃ s t, e = [.val (.tk a), .val (bD n bt), .val (.int (n : Nat)), s, t, .no, .no]) (fun E _ _ _ hE => ?_) fun e he => ?_
  · simp
    rw [rgD_nat]
    refine for_ind (α := Nat) _ (fun xs e => ∃ s t, e = [.val (.tk a), .val (bD n bt), .val (.int (n : Nat)), s, t, .no, .no]) (fun e h => hE e h) (fun x xs e h R hR => ?_) _ _ ⟨.no, .no, rfl⟩
    obtain ⟨s, t, rfl⟩ := h
    refine seq_stepP (fun e => ∃ l s, Perm8 n l ∧ e = [.val (.tk a), .val (bD n bt), .val (.int (n : Nat)), s, .val (.tup (natD l)), .no, .no]) (fun E' _ _ _ hE' => ?_) fun e he => ?_
    · simp [S__law_order]
      exact ⟨_, _, ⟨rfl, rfl⟩, hJ.hand, by omega, fun l hl => hE' _ ⟨l, _, hl, rfl⟩⟩
    obtain ⟨l, s, hl, rfl⟩ := he
    simp [S_champion, S__law_champion, S_raw_champion, S__law_like]
    have hc := champB_lt (bt := bt) (by omega) hl
    obtain ⟨h1, h2, h3⟩ := like_int (x := champB n bt l) (by omega)
    exact ⟨n, bt, l, ⟨rfl, rfl⟩, hb, hl, n, bt, l, ⟨rfl, rfl⟩, hb, hl, _, ⟨rfl, rfl⟩, h1, h2, h3, hR _ ⟨_, _, rfl⟩⟩
  obtain ⟨s, t, rfl⟩ := he
  refine seq_stepP (fun e => n ≤ 6 ∧ e = [.val (.tk a), .val (bD n bt), .val (.int (n : Nat)), s, t, .no, .no]) (fun E hrt _ _ hE => ?_) fun e he => ?_
  · simp [S__law_like]
    by_cases h6 : n ≤ 6
    · exact .inl ⟨by omega, hE _ ⟨h6, rfl⟩⟩
    · refine .inr ⟨by omega, a, n, bt, rfl, rfl, rfl, hJ, hb, by omega, ?_⟩
      rw [hrt]
      exact ⟨_, ⟨rfl, rfl⟩, rfl, okS_int (x := 6) (by omega), small_sz (n := 1921) (by omega), hq⟩
  obtain ⟨h6, rfl⟩ := he
  refine seq_step [.val (.tk a), .val (bD n bt), .val (.int (n : Nat)), s, t, .dk [], .no] (fun E _ _ _ hE => ?_) ?_
  · exact hE
  refine seq_stepP (fun e => ∃ kvs t, Firsts n bt (ordN n n) kvs ∧ e = [.val (.tk a), .val (bD n bt), .val (.int (n : Nat)), s, t, .dk kvs, .no]) (fun E _ _ _ hE => ?_) fun e he => ?_
  · simp [S__law_orders]
    refine ⟨n, rfl, h6, ?_⟩
    refine for_ind (α := List Nat) (fun o => .tup (natD o)) (fun xs e => ∃ pre kvs t, pre ++ xs = ordN n n ∧ Firsts n bt pre kvs ∧ e = [.val (.tk a), .val (bD n bt), .val (.int (n : Nat)), s, t, .dk kvs, .no])
      (fun e h => ?_) (fun o os e h R hR => ?_) _ _ ⟨[], [], t, rfl, ⟨fun t => rfl, by simp⟩, rfl⟩
    · obtain ⟨pre, kvs, t, h1, h2, rfl⟩ := h
      rw [List.append_nil] at h1
      subst h1
      exact hE _ ⟨kvs, t, h2, rfl⟩
    · obtain ⟨pre, kvs, t, h1, h2, rfl⟩ := h
      have ho : Perm8 n o := ordN_perm (by rw [← h1]; simp)
      have hlen : pre.length ≤ 720 := by
        have := ordN_len n h6 n (by omega)
        rw [← h1] at this
        simp at this
        omega
      have hk := h2.len
      simp [S__law_champion, S_raw_champion]
      refine ⟨n, bt, o, ⟨rfl, rfl⟩, hb, ho, small_sz (n := kvs.length + 1) (by omega), ?_⟩
      cases hd : dLook kvs (.inl (champB n bt o : Int)) with
      | some d => exact hR _ ⟨pre ++ [o], kvs, _, by simpa using h1, h2.skip hd, rfl⟩
      | none => exact hR _ ⟨pre ++ [o], _, _, by simpa using h1, h2.put hd, rfl⟩
  obtain ⟨kvs, t, hf, rfl⟩ := he
  refine seq_stepP (fun e => True) (fun E _ _ _ hE => ?_) fun e he => hq
  simp
  refine ⟨by omega, ?_⟩
  rw [rgD_nat]
  refine for_ind (α := Nat) _ (fun xs e => (∀ x ∈ xs, x < n) ∧ ∃ u, e = [.val (.tk a), .val (bD n bt), .val (.int (n : Nat)), s, t, .dk kvs, u]) (fun e h => hE e trivial) (fun x xs e h R hR => ?_) _ _ ⟨by simp, .no, rfl⟩
  obtain ⟨hx, u, rfl⟩ := h
  have hxn := hx x List.mem_cons_self
  simp [S_rigged, S__law_like]
  refine ⟨n, bt, x, ⟨rfl, rfl⟩, hb, h6, hxn, ?_⟩
  have e1 := hf.at_ x
  unfold firstO at e1
  cases hd : (ordN n n).find? (fun o => champB n bt o == x) with
  | none =>
    rw [hd] at e1
    refine ⟨.non, ⟨by simp only [hd], by rw [show dLook kvs (Sum.inl (x : Int)) = none from e1]; rfl⟩, rfl, rfl, small_sz (n := 5) (by omega), hR _ ⟨fun y hy => hx y (List.mem_cons_of_mem _ hy), _, rfl⟩⟩
  | some o =>
    rw [hd] at e1
    have ho : Perm8 n o := ordN_perm (List.mem_of_find?_eq_some hd)
    obtain ⟨h1, h2, h3⟩ := like_nat o (by rw [ho.1]; omega) (fun y hy => by have := ho.2.1 y hy; omega)
    exact ⟨.tup (natD o), ⟨by simp only [hd], by rw [show dLook kvs (Sum.inl (x : Int)) = some (.tup (natD o)) from e1]; rfl⟩, h1, h2, h3, hR _ ⟨fun y hy => hx y (List.mem_cons_of_mem _ hy), _, rfl⟩⟩
end DL

/-! X5: the hand is made of the script. -/
namespace DL
open PySem PySem.Spec PyProof.Rows L2
abbrev st__law_hand : Stmt := topS 24
abbrev N__law_hand : List Str := ["script", "cells", "cell"]
theorem sc__law_hand : FnScope N__law_hand ["script"] (defScope st__law_hand) := ⟨rfl, rfl, rfl, by decide +kernel, rfl, by decide +kernel, by decide +kernel⟩
def spHand (K : PySem.W.Frag) (T : List Addr) : Sp := fun vs H Q _ => ∃ (a : Addr) (ns : List Int), vs = [.ref a] ∧ SqL K H a (ns.map V.int) ∧ ns.length ≤ 63 ∧ (∀ b ∈ T, H b = some (.tbl #[])) ∧
  ∀ (H' : Hp) (b c : Addr) (cells : List Int) (n : Int), (∀ b ∈ T, H' b = some (.tbl #[])) → b ∉ T → b ≠ c → cells.length ≤ 63 → (∀ z ∈ cells, 0 ≤ z) → H' c = some (.lst (cells.map V.int)) → H' b = some (.lst [.ref c, .int 0, .int 0, .int n, .int 0]) → Q (.ref b) H'
def cellOf (z : Int) : Int := (if z < 0 then -z else z) % 10 ^ 40
section
variable {g : Bool} {P : Program} {w : World} {K : PySem.W.Frag} {mg : Str → Option Value} {base : Heap}
/-- tables that nobody writes at -/
def tabJ (T : List Addr) : GJ := ⟨fun b => b ∈ T, fun _ H => ∀ b ∈ T, H b = some (.tbl #[]), fun _ H b i m => by rw [i b m]; simp, fun _ H _ H' i _ e _ b m => (e b m).trans (i b m)⟩
/-- the cells, made of the script -/
def tCells (K : PySem.W.Frag) (T : List Addr) : TS := fun Z σ H => ∃ (a : Addr) (ns : List Int), σ = L2.start N__law_hand [.ref a] ∧ SqL K H a (ns.map V.int) ∧ ns.length ≤ 63 ∧ (∀ b ∈ T, H b = some (.tbl #[])) ∧
  ∀ (p : Addr) (H' : Hp), (∀ b ∈ T, H' b = some (.tbl #[])) → p ∉ T → H' p = some (.lst ((ns.map cellOf).map V.int)) → Z.nx [some (.ref a), some (.ref p), none] H'
theorem ps_cells {T : List Addr} {f : Addr} {cd : Value} {A : Around} {outer : List Env} {s : Shared} {H : Hp} {E : XK} (G : Glo mg) {st : Stmt} {rest : List Stmt} (hst : defBody st__law_hand = st :: rest) : PS (cxOf L2.CX0 P w K mg base N__law_hand "_law_hand" (defScope st__law_hand) f cd A outer s H E) st (tCells K T) := by
  have nd : N__law_hand.Nodup := sc__law_hand.nd
  obtain ⟨rfl, rfl⟩ := List.cons.inj hst
  refine PS.imp (ps_setLc (i := 1) (g := tG K mg (tabJ T) [2] (gN 2)) (tt := xT K mg (tabJ T) wYes) (te := xE K mg (tabJ T) (w2 oMod (wOf (wPr oInt (wCons (wOf (wPr oAbs (wCons (wOf (wPr oInt (wCons (wB 2) wNil))) wNil))) wNil))) (wOf (w2 oPow (wOf (wC (.int 10))) (wOf (wC (.int 40)))))))
      rfl nd rfl rfl rfl (pi_list (pe_slice sl_list (pv 0) po_none (po_some pe_int))) (blkOk_by (own := [("cell", 2)]) (by kernel_rfl)) (fun _ _ _ _ _ => (dg_name (J := (tabJ T)) 2 (L2.pg_name nd rfl (.inl rfl))).run) (fun _ _ _ _ _ => dts_nil.x)
      (fun _ _ _ _ _ => (de_op (J := (tabJ T)) od_mod (db_of (de_callTy cd_int (by rfl) G.b_int PyProof.Rows.boot_int (da_cons (db_of (de_callB cd_abs (by rfl) G.b_abs PyProof.Rows.boot_abs (da_cons (db_of (de_callTy cd_int (by rfl) G.b_int PyProof.Rows.boot_int (da_cons (db_var 2 (pv 2)) da_nil))) da_nil))) da_nil))) (db_of (de_op od_pow (db_of de_int) (db_of de_int)))).x))
    fun Z σ H ⟨a, ns, hσ, hS, hlen, hT, k⟩ => ?_
  subst hσ
  -- the slice
  refine ⟨.ref a, rfl, 63, rfl, a, ns.map V.int, rfl, hS, fun q nq => ?_⟩
  have cut : cutV (ns.map V.int) none (some 63) = ns.map V.int := by
    unfold cutV
    rw [show (63 : Int) = ((63 : Nat) : Int) by rfl, HT.sIx_nat, HT.sIx_none]
    rw [List.length_map, Nat.min_eq_right hlen]
    simp
    exact List.take_of_length_le (by simp)
  rw [cut]
  refine ⟨q, rfl, ⟨_, .inl (.inl upd_same)⟩, ?_⟩
  have st0 : St8 (tabJ T) (fun _ => none) (fun _ => none) H := ⟨fun _ _ h => (by cases h), fun _ _ h => (by cases h), hT, fun _ _ => ⟨rfl, rfl⟩, fun _ _ h => h.elim (fun h => by cases h) fun h => by cases h⟩
  have st1 := (st0.laid (o := .lst (ns.map V.int)) nq nt_lst).st
  have R1 : Rep K mg (tabJ T) (fun _ => none) [.no, .no, .no] (L2.start N__law_hand [.ref a]) (upd (fun _ => none) q (.lst (ns.map V.int))) (upd H q (.lst (ns.map V.int))) := by
    refine ⟨st1, rfl, fun i s o e1 e2 => ?_, fun i j s t ne e1 e2 hs ht => ?_⟩
    · match i, e1 with
      | 0, e1 => cases e1; trivial
      | 1, e1 => cases e1; trivial
      | 2, e1 => cases e1; trivial
      | i + 3, e1 => cases e1
    · match i, e1 with
      | 0, e1 => cases e1; cases hs
      | 1, e1 => cases e1; cases hs
      | 2, e1 => cases e1; cases hs
      | i + 3, e1 => cases e1
  refine lc_rest (Q := fun x H1 => L2.gName 1 x (L2.start N__law_hand [.ref a]) H1 Z.nx) (fin := fun acc _ => acc = (ns.map cellOf).map D.int) R1 (fun pr' => itOk_list upd_same isA_ints) (by simp; rfl) ?_ ?_
  · refine lc_map1 D.int (fun z => .int (cellOf z)) rfl ns (fun z _ k' hk' => ?_) (small_sz (by omega)) (by simp)
    simp
    exact ⟨⟨by decide, by decide, by decide⟩, by simpa [cellOf] using hk'⟩
  · intro acc env' va p F' H' R' ss hp mm al ia hacc
    subst hacc
    have ev := ia.ints
    subst ev
    exact k p H' R'.st.inv mm.m hp
theorem fn_hand {T : List Addr} {f : Addr} {fd : FuncData} (G : Glo mg) (Fu : L2.Fun K "_law_hand" "_law_hand" st__law_hand f fd) : FnG g P w K mg base L2.CX0 1 f fd ["script"] (spHand K T) := by
  refine fnG_of Fu sc__law_hand (fun vs H Q E ⟨a, ns, h, _⟩ => by rw [h]; rfl) fun cd A outer s H vs Q E hr ⟨a, ns, hv, hS, hlen, hT, k⟩ => ?_
  subst hv
  refine ⟨_, pss_cons (ps_cells (T := T) G rfl)
    (pss_one (ps_ret (pe_lst (pa_cons (pv 1) (pa_cons pe_int (pa_cons pe_int (pa_cons (pe_op op_add pe_int (pe_op op_mul pe_int (pe_callB call_len_seq (by rfl) G.b_len PySem.boot_len (pa_cons (pv 1) pa_nil)))) (pa_cons pe_int pa_nil)))))))), ?_⟩
  refine ⟨a, ns, rfl, hS, hlen, hT, fun p H' h1 h2 h3 => ?_⟩
  refine ⟨.ref p, rfl, .ref p, rfl, p, _, rfl, .inl (.inl (.inl h3)), 17, _, rfl, rfl, .inl ⟨by decide, by decide⟩, 5303, _, rfl, rfl, small_sz (n := 5) (by omega), fun q nq => ?_⟩
  have hp : p ≠ q := ne_of_none h3 nq
  refine k _ q p (ns.map cellOf) _ (fun b hb => ?_) (fun hq => ?_) (Ne.symm hp) (by rw [List.length_map]; exact hlen) (fun z hz => ?_) (by rw [upd_ne hp]; exact h3) upd_same
  · rw [upd_ne (ne_of_none (h1 b hb) nq)]
    exact h1 b hb
  · rw [h1 q hq] at nq
    cases nq
  · obtain ⟨y, _, rfl⟩ := List.mem_map.mp hz
    exact Int.emod_nonneg _ (by decide)
end
end DL

/-! X6: the law's own def. -/
namespace DL
open PySem PySem.Spec PyProof.Rows L2 LamX
abbrev st_law : Stmt := topS 35
abbrev N_law : List Str := ["script", "hand", "turn"]
theorem sc_law : FnScope N_law ["script"] (defScope st_law) := ⟨rfl, rfl, rfl, by decide +kernel, rfl, by decide +kernel, by decide +kernel⟩
/-- the hand at b, tables of code objects -/
def handJ (b : Addr) (T0 : List (Addr × Str)) : GJ where
  mt := fun x => x = b ∨ x ∈ T0.map (·.1)
  inv := fun F H => HandAt b F H ∧ Tabs T0 H
  at_ := fun F H x i m => by
    rcases m with rfl | m
    · obtain ⟨c, ns, i, d, s, k, _, h2, _⟩ := i.1.ex
      rw [h2]
      simp
    · obtain ⟨p, hp, rfl⟩ := List.mem_map.mp m
      obtain ⟨ps, h1, _⟩ := i.2 p hp
      rw [h1]
      simp
  stay := fun F H F' H' i e m x => by
    refine ⟨?_, fun p hp => ?_⟩
    · obtain ⟨c, ns, j, d, s, k, h1, h2, h3⟩ := i.1.ex
      exact ⟨c, ns, j, d, s, k, e _ _ h1, (m b (.inl rfl)).trans h2, h3⟩
    · obtain ⟨ps, h1, h2, h3⟩ := i.2 p hp
      refine ⟨ps, (m p.1 (.inr (List.mem_map.mpr ⟨p, hp, rfl⟩))).trans h1, h2, fun pos cv hcv => ?_⟩
      obtain ⟨c, e1, e2⟩ := h3 pos cv hcv
      exact ⟨c, e1, x c _ e2⟩
theorem handJ_is {b : Addr} {T0 : List (Addr × Str)} (h : b ∉ T0.map (·.1)) : IsHandT (handJ b T0) b T0 := ⟨rfl, h, fun _ _ => Iff.rfl⟩
def w_law (T0 : List (Addr × Str)) (J : GJ) : WS := sRet (wPr oAll (wCons (wOf (wLC [2] (wR1 (wCons (wOf (wC (.int 4))) wNil)) (gN 2) wYes (wCall J (S__law_is_case_right T0) 2 (wCons (wOf (wVar 1)) (wCons (wOf (wCall J S__law_beats 1 (wCons (wOf (wVar 1)) wNil))) wNil))))) wNil))
theorem v_law (T0 : List (Addr × Str)) {b : Addr} (hb : b ∉ T0.map (·.1)) (E : DEnds) (hE : ∀ e, E.rt (.bl true) e) : w_law T0 (handJ b T0) [.no, .val (.tk b), .no] E := by
  simp [w_law]
  refine ⟨rfl, ?_⟩
  rw [show rgD 0 1 4 = (List.range 4).map fun i => D.int (i : Nat) from rgD_nat 4]
  refine lc_map1 _ (fun _ => .bl true) rfl _ (fun x hx k hk => ?_) (by simp; exact small_sz (by omega)) ?_
  · simp [S__law_beats, S__law_is_case_right]
    refine ⟨(handJ_is hb).hand, fun n bt hbt => ?_⟩
    exact ⟨b, n, bt, ⟨rfl, rfl⟩, handJ_is hb, hbt, hk⟩
  · exact ⟨List.replicate 4 true, rfl, by simpa using hE _⟩
def spLaw (K : PySem.W.Frag) (P0 : Addr) : Sp := fun vs H Q _ => ∃ (a : Addr) (ns : List Int), vs = [.ref a] ∧ SqL K H a (ns.map V.int) ∧ ns.length ≤ 63 ∧ H P0 = some (.tbl #[]) ∧ ∀ H', Q (.bl true) H'
theorem fn_law {P : Program} {w : World} {K : PySem.W.Frag} {mg : Str → Option Value} {base : Heap} {P0 fH f : Addr} {fdH fd : FuncData} {qn : Str} (G : Glo mg) (FH : FnG true P w K mg base L2.CX0 1 fH fdH ["script"] (spHand K [P0])) (mH : mg "_law_hand" = some (.ref fH)) (kH : PySem.W.keepIn K (.ref fH) = true) (bH : Binds K fdH ["script"] [])
    (cb : CalG true P w K mg base 3 "_law_beats" S__law_beats 1) (cc : CalG true P w K mg base 7 "_law_is_case_right" (S__law_is_case_right [(P0, qn)]) 2) (Fu : L2.Fun K "law" "law" st_law f fd) : FnG true P w K mg base L2.CX0 8 f fd ["script"] (spLaw K P0) := by
  refine fnG_of Fu sc_law (fun vs H Q E ⟨a, ns, h, _⟩ => by rw [h]; rfl) fun cd A outer s H vs Q E hr ⟨a, ns, hv, hS, hlen, hT, k⟩ => ?_
  subst hv
  have nd : N_law.Nodup := sc_law.nd
  have second : ∀ b : Addr, DSs (cxOf L2.CX0 P w K mg base N_law "law" (defScope st_law) f cd A outer s H E) (handJ b [(P0, qn)]) ((defBody st_law).drop 1) (w_law [(P0, qn)] (handJ b [(P0, qn)])) := fun b =>
    dss_one (ds_ret (de_callB (cd_all rfl) (by rfl) G.b_all PyProof.Rows.boot_all (da_cons (db_of (de_lc rfl nd (di_r1 (by rfl) G.b_range (da_cons (db_of de_int) da_nil)) (blkOk_by (own := [("turn", 2)]) (by kernel_rfl)) (fun _ _ _ _ _ => dg_name 2 (L2.pg_name nd rfl (.inl rfl))) (fun _ _ _ _ _ => dts_nil)
      (fun _ _ _ _ _ => de_call cc hr (by decide) (by rfl) (da_cons (db_of (de_var 1 (pv 1))) (da_cons (db_of (de_call cb hr (by decide) (by rfl) (da_cons (db_of (de_var 1 (pv 1))) da_nil))) da_nil))))) da_nil)))
  refine ⟨_, pss_cons (ps_set (i := 1) nd rfl (by first | exact .inl rfl | exact .inr rfl) (pe_callG FH (hr.mono (by decide)) (by rfl) mH kH bH L2.pass0 (pa_cons (pv 0) pa_nil))) (u := fun Z σ H => ∃ b, tS K mg (handJ b [(P0, qn)]) (w_law [(P0, qn)] (handJ b [(P0, qn)])) Z σ H) ⟨fun pins s σ H Z I ⟨b, h⟩ => (second b).run.run pins s σ H Z I h⟩, ?_⟩
  refine ⟨.ref a, rfl, a, ns, rfl, hS, hlen, fun p hp => by rw [List.mem_singleton.mp hp]; exact hT, fun H' b c cells n h1 h2 h3 h4 h5 h6 h7 => ⟨b, ?_⟩⟩
  have hb : b ∉ ([(P0, qn)] : List (Addr × Str)).map (·.1) := h2
  have hP : H' P0 = some (.tbl #[]) := h1 P0 (by simp)
  have hPc : P0 ≠ c := fun z => by
    rw [z, h6] at hP
    cases hP
  have hF : ∀ x o, upd (fun _ => none) c (.lst (cells.map V.int)) x = some o → x = c ∧ o = .lst (cells.map V.int) := fun x o e => by
    by_cases hx : x = c
    · subst hx
      rw [upd_same] at e
      cases e
      exact ⟨rfl, rfl⟩
    · rw [upd_ne hx] at e
      cases e
  have st : St8 (handJ b [(P0, qn)]) (fun _ => none) (upd (fun _ => none) c (.lst (cells.map V.int))) H' := by
    refine ⟨fun x o e => ?_, fun x o e => (by cases e), ⟨⟨c, cells, 0, 0, n, 0, upd_same, h7, ⟨h4, h5, by decide, by decide⟩⟩, fun p hp => ?_⟩, fun x m => ⟨?_, rfl⟩, fun x o e => ?_⟩
    · obtain ⟨rfl, rfl⟩ := hF x o e
      exact h6
    · rw [List.mem_singleton.mp hp]
      exact TabS.nil hP
    · rcases m with rfl | m
      · rw [upd_ne h3]
      · have : x = P0 := by simpa using m
        subst this
        rw [upd_ne hPc]
    · rcases e with e | e
      · obtain ⟨rfl, rfl⟩ := hF x o e
        exact nt_lst
      · cases e
  have R : Rep K mg (handJ b [(P0, qn)]) (fun _ => none) [.no, .val (.tk b), .no] ((L2.start N_law [.ref a]).set 1 (some (.ref b))) (upd (fun _ => none) c (.lst (cells.map V.int))) H' := by
    refine ⟨st, rfl, fun i s o e1 e2 => ?_, fun i j s t ne e1 e2 hs ht => ?_⟩
    · match i, e1, e2 with
      | 0, e1, _ => cases e1; trivial
      | 1, e1, e2 =>
        cases e1
        cases e2
        exact ⟨_, rfl, .tk b⟩
      | 2, e1, _ => cases e1; trivial
      | i + 3, e1, _ => cases e1
    · match i, e1 with
      | 0, e1 => cases e1; cases hs
      | 1, e1 => cases e1; cases hs
      | 2, e1 => cases e1; cases hs
      | i + 3, e1 => cases e1
  refine ⟨fun _ => none, _, _, { nx := fun _ => False, rt := fun d _ => d = .bl true }, R, v_law _ hb _ fun e => rfl, ⟨fun _ _ _ _ _ _ h => h.elim, fun d v e σ F' H' R' ff iv hd => ?_, fun _ _ _ _ _ _ h => h.elim, fun _ _ _ _ _ _ h => h.elim⟩⟩
  subst hd
  cases iv.bl_inv
  exact k H'
end DL

/-! X7: the law called at the top, one table of code objects, no object being written out. -/
namespace DL
open PySem PySem.Spec PyProof.Rows L2 LamX
/-- the abstract heap at the start: the table, and the script if it is no part of the text -/
def topH (K : PySem.W.Frag) (P0 a : Addr) (os : Obj) (xs : List V) : Hp := fun b => if b = P0 then some (.tbl #[]) else if b = a ∧ K.lookup a = none then some (.frz os (.lst xs)) else none
section
variable {K : PySem.W.Frag} {P0 a b : Addr} {os : Obj} {xs : List V}
theorem topH_P : topH K P0 a os xs P0 = some (.tbl #[]) := if_pos rfl
theorem topH_a (n : a ≠ P0) (e : K.lookup a = none) : topH K P0 a os xs a = some (.frz os (.lst xs)) := (if_neg n).trans (if_pos ⟨rfl, e⟩)
theorem topH_off (h1 : b ≠ P0) (h2 : b ≠ a ∨ K.lookup a ≠ none) : topH K P0 a os xs b = none := (if_neg h1).trans (if_neg fun z => h2.elim (fun h => h z.1) fun h => h z.2)
theorem topH_cases {u : HO} (e : topH K P0 a os xs b = some u) : (b = P0 ∧ u = .tbl #[]) ∨ (b = a ∧ b ≠ P0 ∧ K.lookup a = none ∧ u = .frz os (.lst xs)) := by
  unfold topH at e
  split at e
  · rename_i h
    exact .inl ⟨h, (Option.some.inj e).symm⟩
  · rename_i h
    split at e
    · rename_i h2
      exact .inr ⟨h2.1, h, h2.2, (Option.some.inj e).symm⟩
    · cases e
end
theorem law_top {P : Program} {w : World} {K : PySem.W.Frag} {mg mb : Str → Option Value} {k : Nat} {fa a c P0 : Addr} {fd : FuncData} {x : Str} {sp : Sp} {S : Shared} {vs : List Value} {ns : List Int} (inK : K.In S.heap) (nsG : S.heap.Ns mainGlobals mg) (nsB : S.heap.Ns builtinsNs mb)
    (boots : ∀ y : Str, y ≠ "__name__" → mb y = bootBuiltins y) (free : S.heap.NoLimit) (gen0 : S.gens = #[]) (tab : S.heap.get? P0 = some { cls := .none, data := .fields #[] }) (offK : K.lookup P0 = none) (code : PySem.W.CodeHd S.heap c P0)
    (bmod : ∃ (bm : Addr) (ob : Obj), mg "__builtins__" = some (.ref bm) ∧ bm ≠ builtinsNs ∧ S.heap.get? bm = some ob ∧ ob.cls = .type "module" ∧ ob.dict = some builtinsNs ∧ ob.data = .plain)
    (scr : S.heap.get? a = some { cls := .type "list", data := .seq vs.toArray }) (intz : IntsAre vs ns) (short : ns.length ≤ sizeLine) (room : Rm true k callerA)
    (F : ∀ base : Heap, K.In base → base.Ns mainGlobals mg → TabB base mg c P0 → FnG true P w K mg base L2.CX0 k fa fd [x] sp) (bnd : ∀ (s : Shared) (u : Value), BindsTo s fd ⟨[u], []⟩ [(x, u)])
    (prom : ∀ H : Hp, H P0 = some (.tbl #[]) → SqL K H a (ns.map V.int) → sp [.ref a] H (fun v _ => v = .bl true) fun _ _ _ => False) :
    codeAny (model P w) callerA (.call (.ref fa) ⟨[.ref a], []⟩) (fun r s' => r = .ok (.ret (.bool true)) ∧ OldK S.heap s'.heap ∧ s'.os = S.os ∧ AllBare s'.gens) S := by
  have rel : Vals (ns.map V.int) vs := vals_ints intz
  have aP : a ≠ P0 := fun z => by
    rw [z, tab] at scr
    have z' : Data.fields #[] = Data.seq vs.toArray _ := congrArg Obj.data (Option.some.inj scr)
    cases z'
  obtain ⟨H, hH⟩ : ∃ H, H = topH K P0 a { cls := .type "list", data := .seq vs.toArray } (ns.map V.int) := ⟨_, rfl⟩
  have H_P : H P0 = some (.tbl #[]) := by rw [hH]; exact topH_P
  -- what is neither a list nor an empty table is not tracked
  have off : ∀ {b : Addr} {o : Obj}, S.heap.get? b = some o → (∀ z n, o.data ≠ .seq z n) → o.data ≠ .fields #[] → H b = none := fun {b o} e n1 n2 => by
    rw [hH]
    refine topH_off (fun z => ?_) (.inl fun z => ?_)
    · subst z
      rw [tab] at e
      cases e
      exact n2 rfl
    · subst z
      rw [scr] at e
      cases e
      exact n1 _ _ rfl
  have hid : ∀ {b : Addr} {o : Obj}, S.heap.get? b = some o → H b = none → (hidT S.heap H).get? b = some o := fun e n => hidT_get e n
  have hidNs : ∀ {b : Addr} {m : Str → Option Value}, S.heap.Ns b m → (hidT S.heap H).Ns b m := fun {b m} h => by
    obtain ⟨o, es, ep, e, d, r⟩ := h
    refine ⟨o, es, ep, hid e (off e (fun z n q => ?_) fun q => ?_), d, r⟩ <;> rw [d] at q <;> cases q
  have ok : HOk P w H S.heap := fun b u e => by
    rw [hH] at e
    rcases topH_cases e with ⟨rfl, rfl⟩ | ⟨rfl, _, _, rfl⟩
    · exact tab
    · exact ⟨scr, by rw [List.length_map]; exact short, vs, _, rel, scr⟩
  have inB : K.In (hidT S.heap H) := fun b o e => hid (inK b o e) (by
    rw [hH]
    refine topH_off (fun z => ?_) ?_
    · subst z
      rw [offK] at e
      cases e
    · by_cases z : b = a
      · subst z
        exact .inr (by rw [e]; simp)
      · exact .inl z)
  have sq : SqL K H a (ns.map V.int) := by
    cases hk : K.lookup a with
    | none =>
      exact .inl (.inr ⟨{ cls := .type "list", data := .seq vs.toArray }, by rw [hH]; exact topH_a aP hk⟩)
    | some o =>
      have e := inK a o hk
      rw [scr] at e
      cases e
      refine .inr ⟨_, vs.toArray, _, hk, rfl, rfl, rfl, ?_, by simpa using rel⟩
      rw [List.size_toArray, intz.length]
      exact short
  have notG : ∀ {b : Addr} {o : Obj} {m : Str → Option Value}, S.heap.Ns mainGlobals m → S.heap.get? b = some o → (∀ es ep, o.data ≠ .dict es ep) → b ≠ mainGlobals := fun {b o m} h e n z => by
    obtain ⟨o', es, ep, e', d, _⟩ := h
    rw [z, e'] at e
    cases e
    exact n es ep d
  have tb : TabB (hidT S.heap H) mg c P0 := by
    refine ⟨?_, ?_, fun z => notG nsG tab (fun es ep q => by cases q) z.symm⟩
    · obtain ⟨o, us, file, tf, flags, tg, inF, text, tt, g0, g1, g2, g3, g4⟩ := code
      refine ⟨o, us, file, tf, flags, tg, inF, text, tt, hid g0 (off g0 (fun z n q => ?_) fun q => ?_), g1, g2, g3, g4⟩
      · rw [g2] at q
        cases q
      · rw [g2] at q
        cases q
        simp at g3
    · obtain ⟨bm, ob, g1, g2, g3, g4, g5, g6⟩ := bmod
      have np : bm ≠ P0 := fun q => by
        subst q
        rw [tab] at g3
        cases g3
        cases g6
      refine ⟨bm, ob, g1, g2, notG nsG g3 (fun es ep q => by rw [g6] at q; cases q), np, hid g3 (off g3 (fun z n q => ?_) fun q => ?_), g4, g5, g6⟩ <;> rw [g6] at q <;> cases q
  have env : Env0 P w K mg (hidT S.heap H) callerA [] S H := by
    obtain ⟨mc, l1, l2⟩ := free
    exact ⟨rfl, ⟨inB, hidNs nsG, ⟨mb, hidNs nsB, boots⟩, ⟨mc, hidNs l1, l2⟩⟩, fun b o e => of_hidT e, Nat.le_of_eq (hidT_size _ _), trivial, fun b z => (by cases z), ok, .of_eq gen0⟩
  have run := (F _ inB (hidNs nsG) tb).run callerA [] S H ⟨[.ref a], []⟩ [.ref a] [.ref a] _ _ room env (bnd S (.ref a)) (.cons rfl .nil) (prom H H_P sq)
  refine codeAny_mono run fun r s' h => ?_
  match r, h with
  | .error e, h => exact (show False from h).elim
  | .ok .next, h => exact (show False from h).elim
  | .ok .brk, h => exact (show False from h).elim
  | .ok .cont, h => exact (show False from h).elim
  | .ok (.ret u), h =>
    obtain ⟨v, H', eos, ebare, un, ok', ru, ev⟩ := h
    have ev : v = .bl true := ev
    subst ev
    obtain rfl : u = Value.bool true := ru
    obtain ⟨more, hm⟩ := un.tbls P0 #[] H_P
    have tab' : s'.heap.get? P0 = some { cls := .none, data := .fields (#[] ++ more) } := ok' P0 _ hm
    have same : ∀ b o, b ≠ P0 → S.heap.get? b = some o → s'.heap.get? b = some o := fun b o nb e => by
      cases q : H b with
      | none => exact un.keep b o e q (fun z => by cases z) (fun z => by cases z)
      | some u =>
        have q2 := q
        rw [hH] at q2
        rcases topH_cases q2 with ⟨z, _⟩ | ⟨rfl, _, _, rfl⟩
        · exact absurd z nb
        · have z := un.frzs b _ _ q
          have f1 := (ok b _ q).1
          have f2 := (ok' b _ z).1
          rw [e] at f1
          cases f1
          exact f2
    refine ⟨rfl, ⟨fun b o e => ?_, fun b o e => ?_⟩, eos, ebare⟩
    · by_cases nb : b = P0
      · subst nb
        rw [tab] at e
        cases e
        exact .inr (.inl ⟨(code.tab tab).isCodeTable, rfl, #[], more, rfl, tab'⟩)
      · exact .inl (same b o nb e)
    · by_cases nb : b = P0
      · subst nb
        exact ⟨_, tab'⟩
      · exact ⟨o, same b o nb e⟩
end DL

/-! End53: all joined. -/
namespace DL
open PySem PySem.Spec PyProof.Rows L2 LamX
theorem exm_own {K : PySem.W.Frag} {C : Addr} (h1 : PySem.W.subIn K (.ref C) (.type "BaseException") = some true) (h2 : PySem.W.isClsIn K C = true) (h3 : PySem.W.typeIn K (.ref C) = some (.type "type")) (h4 : PySem.W.subIn K (.ref C) (.ref C) = some true) : PySem.W.exmOne K (.ref C) (.ref C) = some true := by
  have h5 : (PySem.W.clsIn K C).isSome = true := h2
  simp [PySem.W.exmOne, PySem.W.kitCls, h1, h3, h4, h5]

theorem all_mk {P : Program} {w : World} {K : PySem.W.Frag} {h : Heap} {mg : Str → Option Value} {fa : Addr} (X : K.In h) (G : h.Ns mainGlobals mg) (hfa : mg "law" = some (.ref fa))
    {f_is_integer f_is_within f_is_tuple f_is_sized f_is_order f_orders_of f_check_team f_are_beats f_check_beats f_kings f_raw_champion f_champion f_rigged f_law_draw f_law_any f_law_order f_law_orders f_law_beats f_law_kings f_law_champion f_law_like f_law_hand f_law_most f_law_is_case_right f_law fP fT CP CT c P0 : Addr}
    {od_is_integer an_is_integer od_is_within an_is_within od_is_tuple an_is_tuple od_is_sized an_is_sized od_is_order an_is_order od_orders_of an_orders_of od_check_team an_check_team od_are_beats an_are_beats od_check_beats an_check_beats od_kings an_kings od_raw_champion an_raw_champion od_champion an_champion od_rigged an_rigged od_law_draw an_law_draw od_law_any an_law_any od_law_order an_law_order od_law_orders an_law_orders od_law_beats an_law_beats od_law_kings an_law_kings od_law_champion an_law_champion od_law_like an_law_like od_law_hand an_law_hand od_law_most an_law_most od_law_is_case_right an_law_is_case_right od_law an_law od_iP an_iP od_iT an_iT : Option Addr}
    {sl_is_integer sl_is_within sl_is_tuple sl_is_sized sl_is_order sl_orders_of sl_check_team sl_are_beats sl_check_beats sl_kings sl_raw_champion sl_champion sl_rigged sl_law_draw sl_law_any sl_law_order sl_law_orders sl_law_beats sl_law_kings sl_law_champion sl_law_like sl_law_hand sl_law_most sl_law_is_case_right sl_law sl_iP sl_iT : Array (Option Value)}
    {oc_is_integer kV_is_integer dc_is_integer pm_is_integer ct_is_integer cd_is_integer oc_is_within kV_is_within dc_is_within pm_is_within ct_is_within cd_is_within oc_is_tuple kV_is_tuple dc_is_tuple pm_is_tuple ct_is_tuple cd_is_tuple oc_is_sized kV_is_sized dc_is_sized pm_is_sized ct_is_sized cd_is_sized oc_is_order kV_is_order dc_is_order pm_is_order ct_is_order cd_is_order oc_orders_of kV_orders_of dc_orders_of pm_orders_of ct_orders_of cd_orders_of oc_check_team kV_check_team dc_check_team pm_check_team ct_check_team cd_check_team oc_are_beats kV_are_beats dc_are_beats pm_are_beats ct_are_beats cd_are_beats oc_check_beats kV_check_beats dc_check_beats pm_check_beats ct_check_beats cd_check_beats oc_kings kV_kings dc_kings pm_kings ct_kings cd_kings oc_raw_champion kV_raw_champion dc_raw_champion pm_raw_champion ct_raw_champion cd_raw_champion oc_champion kV_champion dc_champion pm_champion ct_champion cd_champion oc_rigged kV_rigged dc_rigged pm_rigged ct_rigged cd_rigged oc_law_draw kV_law_draw dc_law_draw pm_law_draw ct_law_draw cd_law_draw oc_law_any kV_law_any dc_law_any pm_law_any ct_law_any cd_law_any oc_law_order kV_law_order dc_law_order pm_law_order ct_law_order cd_law_order oc_law_orders kV_law_orders dc_law_orders pm_law_orders ct_law_orders cd_law_orders oc_law_beats kV_law_beats dc_law_beats pm_law_beats ct_law_beats cd_law_beats oc_law_kings kV_law_kings dc_law_kings pm_law_kings ct_law_kings cd_law_kings oc_law_champion kV_law_champion dc_law_champion pm_law_champion ct_law_champion cd_law_champion oc_law_like kV_law_like dc_law_like pm_law_like ct_law_like cd_law_like oc_law_hand kV_law_hand dc_law_hand pm_law_hand ct_law_hand cd_law_hand oc_law_most kV_law_most dc_law_most pm_law_most ct_law_most cd_law_most oc_law_is_case_right kV_law_is_case_right dc_law_is_case_right pm_law_is_case_right ct_law_is_case_right oc_law kV_law dc_law pm_law ct_law cd_law oc_iP kV_iP dc_iP pm_iP ct_iP cd_iP oc_iT kV_iT dc_iT pm_iT ct_iT cd_iT : Value}
    {t_MOST_BEATS t_MOST_RIGGED : Tok}
    {nm qq : Str} {NN : Addr} {bs : List Value} {sn : List Str} {sub : List Value} {ab : Bool} {col : Option Bool} {dd : Option Addr} {m0 m1 m2 m3 m5 : Option Value}
    (a_is_integer : PySem.W.nsIn K mainGlobals "is_integer" = some (some (.ref f_is_integer)))
    (l_is_integer : K.lookup f_is_integer = some ⟨oc_is_integer, od_is_integer, .func (PySem.W.fnOf "is_integer" "is_integer" (defArgs st_is_integer) (defBody st_is_integer) (defScope st_is_integer) .none kV_is_integer dc_is_integer pm_is_integer an_is_integer cd_is_integer ct_is_integer), sl_is_integer⟩)
    (c_is_integer : PySem.W.codeIn K cd_is_integer "is_integer" = true)
    (k_is_integer : PySem.W.keepIn K (.ref f_is_integer) = true)
    (a_is_within : PySem.W.nsIn K mainGlobals "is_within" = some (some (.ref f_is_within)))
    (l_is_within : K.lookup f_is_within = some ⟨oc_is_within, od_is_within, .func (PySem.W.fnOf "is_within" "is_within" (defArgs st_is_within) (defBody st_is_within) (defScope st_is_within) .none kV_is_within dc_is_within pm_is_within an_is_within cd_is_within ct_is_within), sl_is_within⟩)
    (c_is_within : PySem.W.codeIn K cd_is_within "is_within" = true)
    (k_is_within : PySem.W.keepIn K (.ref f_is_within) = true)
    (a_is_tuple : PySem.W.nsIn K mainGlobals "is_tuple" = some (some (.ref f_is_tuple)))
    (l_is_tuple : K.lookup f_is_tuple = some ⟨oc_is_tuple, od_is_tuple, .func (PySem.W.fnOf "is_tuple" "is_tuple" (defArgs st_is_tuple) (defBody st_is_tuple) (defScope st_is_tuple) .none kV_is_tuple dc_is_tuple pm_is_tuple an_is_tuple cd_is_tuple ct_is_tuple), sl_is_tuple⟩)
    (c_is_tuple : PySem.W.codeIn K cd_is_tuple "is_tuple" = true)
    (k_is_tuple : PySem.W.keepIn K (.ref f_is_tuple) = true)
    (a_is_sized : PySem.W.nsIn K mainGlobals "is_sized" = some (some (.ref f_is_sized)))
    (l_is_sized : K.lookup f_is_sized = some ⟨oc_is_sized, od_is_sized, .func (PySem.W.fnOf "is_sized" "is_sized" (defArgs st_is_sized) (defBody st_is_sized) (defScope st_is_sized) .none kV_is_sized dc_is_sized pm_is_sized an_is_sized cd_is_sized ct_is_sized), sl_is_sized⟩)
    (c_is_sized : PySem.W.codeIn K cd_is_sized "is_sized" = true)
    (k_is_sized : PySem.W.keepIn K (.ref f_is_sized) = true)
    (a_is_order : PySem.W.nsIn K mainGlobals "is_order" = some (some (.ref f_is_order)))
    (l_is_order : K.lookup f_is_order = some ⟨oc_is_order, od_is_order, .func (PySem.W.fnOf "is_order" "is_order" (defArgs st_is_order) (defBody st_is_order) (defScope st_is_order) .none kV_is_order dc_is_order pm_is_order an_is_order cd_is_order ct_is_order), sl_is_order⟩)
    (c_is_order : PySem.W.codeIn K cd_is_order "is_order" = true)
    (k_is_order : PySem.W.keepIn K (.ref f_is_order) = true)
    (a_orders_of : PySem.W.nsIn K mainGlobals "orders_of" = some (some (.ref f_orders_of)))
    (l_orders_of : K.lookup f_orders_of = some ⟨oc_orders_of, od_orders_of, .func (PySem.W.fnOf "orders_of" "orders_of" (defArgs st_orders_of) (defBody st_orders_of) (defScope st_orders_of) .none kV_orders_of dc_orders_of pm_orders_of an_orders_of cd_orders_of ct_orders_of), sl_orders_of⟩)
    (c_orders_of : PySem.W.codeIn K cd_orders_of "orders_of" = true)
    (k_orders_of : PySem.W.keepIn K (.ref f_orders_of) = true)
    (a_check_team : PySem.W.nsIn K mainGlobals "check_team" = some (some (.ref f_check_team)))
    (l_check_team : K.lookup f_check_team = some ⟨oc_check_team, od_check_team, .func (PySem.W.fnOf "check_team" "check_team" (defArgs st_check_team) (defBody st_check_team) (defScope st_check_team) .none kV_check_team dc_check_team pm_check_team an_check_team cd_check_team ct_check_team), sl_check_team⟩)
    (c_check_team : PySem.W.codeIn K cd_check_team "check_team" = true)
    (k_check_team : PySem.W.keepIn K (.ref f_check_team) = true)
    (a_are_beats : PySem.W.nsIn K mainGlobals "are_beats" = some (some (.ref f_are_beats)))
    (l_are_beats : K.lookup f_are_beats = some ⟨oc_are_beats, od_are_beats, .func (PySem.W.fnOf "are_beats" "are_beats" (defArgs st_are_beats) (defBody st_are_beats) (defScope st_are_beats) .none kV_are_beats dc_are_beats pm_are_beats an_are_beats cd_are_beats ct_are_beats), sl_are_beats⟩)
    (c_are_beats : PySem.W.codeIn K cd_are_beats "are_beats" = true)
    (k_are_beats : PySem.W.keepIn K (.ref f_are_beats) = true)
    (a_check_beats : PySem.W.nsIn K mainGlobals "check_beats" = some (some (.ref f_check_beats)))
    (l_check_beats : K.lookup f_check_beats = some ⟨oc_check_beats, od_check_beats, .func (PySem.W.fnOf "check_beats" "check_beats" (defArgs st_check_beats) (defBody st_check_beats) (defScope st_check_beats) .none kV_check_beats dc_check_beats pm_check_beats an_check_beats cd_check_beats ct_check_beats), sl_check_beats⟩)
    (c_check_beats : PySem.W.codeIn K cd_check_beats "check_beats" = true)
    (k_check_beats : PySem.W.keepIn K (.ref f_check_beats) = true)
    (a_kings : PySem.W.nsIn K mainGlobals "kings" = some (some (.ref f_kings)))
    (l_kings : K.lookup f_kings = some ⟨oc_kings, od_kings, .func (PySem.W.fnOf "kings" "kings" (defArgs st_kings) (defBody st_kings) (defScope st_kings) .none kV_kings dc_kings pm_kings an_kings cd_kings ct_kings), sl_kings⟩)
    (c_kings : PySem.W.codeIn K cd_kings "kings" = true)
    (k_kings : PySem.W.keepIn K (.ref f_kings) = true)
    (a_raw_champion : PySem.W.nsIn K mainGlobals "raw_champion" = some (some (.ref f_raw_champion)))
    (l_raw_champion : K.lookup f_raw_champion = some ⟨oc_raw_champion, od_raw_champion, .func (PySem.W.fnOf "raw_champion" "raw_champion" (defArgs st_raw_champion) (defBody st_raw_champion) (defScope st_raw_champion) .none kV_raw_champion dc_raw_champion pm_raw_champion an_raw_champion cd_raw_champion ct_raw_champion), sl_raw_champion⟩)
    (c_raw_champion : PySem.W.codeIn K cd_raw_champion "raw_champion" = true)
    (k_raw_champion : PySem.W.keepIn K (.ref f_raw_champion) = true)
    (a_champion : PySem.W.nsIn K mainGlobals "champion" = some (some (.ref f_champion)))
    (l_champion : K.lookup f_champion = some ⟨oc_champion, od_champion, .func (PySem.W.fnOf "champion" "champion" (defArgs st_champion) (defBody st_champion) (defScope st_champion) .none kV_champion dc_champion pm_champion an_champion cd_champion ct_champion), sl_champion⟩)
    (c_champion : PySem.W.codeIn K cd_champion "champion" = true)
    (k_champion : PySem.W.keepIn K (.ref f_champion) = true)
    (a_rigged : PySem.W.nsIn K mainGlobals "rigged" = some (some (.ref f_rigged)))
    (l_rigged : K.lookup f_rigged = some ⟨oc_rigged, od_rigged, .func (PySem.W.fnOf "rigged" "rigged" (defArgs st_rigged) (defBody st_rigged) (defScope st_rigged) .none kV_rigged dc_rigged pm_rigged an_rigged cd_rigged ct_rigged), sl_rigged⟩)
    (c_rigged : PySem.W.codeIn K cd_rigged "rigged" = true)
    (k_rigged : PySem.W.keepIn K (.ref f_rigged) = true)
    (a_law_draw : PySem.W.nsIn K mainGlobals "_law_draw" = some (some (.ref f_law_draw)))
    (l_law_draw : K.lookup f_law_draw = some ⟨oc_law_draw, od_law_draw, .func (PySem.W.fnOf "_law_draw" "_law_draw" (defArgs st__law_draw) (defBody st__law_draw) (defScope st__law_draw) .none kV_law_draw dc_law_draw pm_law_draw an_law_draw cd_law_draw ct_law_draw), sl_law_draw⟩)
    (c_law_draw : PySem.W.codeIn K cd_law_draw "_law_draw" = true)
    (k_law_draw : PySem.W.keepIn K (.ref f_law_draw) = true)
    (a_law_any : PySem.W.nsIn K mainGlobals "_law_any" = some (some (.ref f_law_any)))
    (l_law_any : K.lookup f_law_any = some ⟨oc_law_any, od_law_any, .func (PySem.W.fnOf "_law_any" "_law_any" (defArgs st__law_any) (defBody st__law_any) (defScope st__law_any) .none kV_law_any dc_law_any pm_law_any an_law_any cd_law_any ct_law_any), sl_law_any⟩)
    (c_law_any : PySem.W.codeIn K cd_law_any "_law_any" = true)
    (k_law_any : PySem.W.keepIn K (.ref f_law_any) = true)
    (a_law_order : PySem.W.nsIn K mainGlobals "_law_order" = some (some (.ref f_law_order)))
    (l_law_order : K.lookup f_law_order = some ⟨oc_law_order, od_law_order, .func (PySem.W.fnOf "_law_order" "_law_order" (defArgs st__law_order) (defBody st__law_order) (defScope st__law_order) .none kV_law_order dc_law_order pm_law_order an_law_order cd_law_order ct_law_order), sl_law_order⟩)
    (c_law_order : PySem.W.codeIn K cd_law_order "_law_order" = true)
    (k_law_order : PySem.W.keepIn K (.ref f_law_order) = true)
    (a_law_orders : PySem.W.nsIn K mainGlobals "_law_orders" = some (some (.ref f_law_orders)))
    (l_law_orders : K.lookup f_law_orders = some ⟨oc_law_orders, od_law_orders, .func (PySem.W.fnOf "_law_orders" "_law_orders" (defArgs st__law_orders) (defBody st__law_orders) (defScope st__law_orders) .none kV_law_orders dc_law_orders pm_law_orders an_law_orders cd_law_orders ct_law_orders), sl_law_orders⟩)
    (c_law_orders : PySem.W.codeIn K cd_law_orders "_law_orders" = true)
    (k_law_orders : PySem.W.keepIn K (.ref f_law_orders) = true)
    (a_law_beats : PySem.W.nsIn K mainGlobals "_law_beats" = some (some (.ref f_law_beats)))
    (l_law_beats : K.lookup f_law_beats = some ⟨oc_law_beats, od_law_beats, .func (PySem.W.fnOf "_law_beats" "_law_beats" (defArgs st__law_beats) (defBody st__law_beats) (defScope st__law_beats) .none kV_law_beats dc_law_beats pm_law_beats an_law_beats cd_law_beats ct_law_beats), sl_law_beats⟩)
    (c_law_beats : PySem.W.codeIn K cd_law_beats "_law_beats" = true)
    (k_law_beats : PySem.W.keepIn K (.ref f_law_beats) = true)
    (a_law_kings : PySem.W.nsIn K mainGlobals "_law_kings" = some (some (.ref f_law_kings)))
    (l_law_kings : K.lookup f_law_kings = some ⟨oc_law_kings, od_law_kings, .func (PySem.W.fnOf "_law_kings" "_law_kings" (defArgs st__law_kings) (defBody st__law_kings) (defScope st__law_kings) .none kV_law_kings dc_law_kings pm_law_kings an_law_kings cd_law_kings ct_law_kings), sl_law_kings⟩)
    (c_law_kings : PySem.W.codeIn K cd_law_kings "_law_kings" = true)
    (k_law_kings : PySem.W.keepIn K (.ref f_law_kings) = true)
    (a_law_champion : PySem.W.nsIn K mainGlobals "_law_champion" = some (some (.ref f_law_champion)))
    (l_law_champion : K.lookup f_law_champion = some ⟨oc_law_champion, od_law_champion, .func (PySem.W.fnOf "_law_champion" "_law_champion" (defArgs st__law_champion) (defBody st__law_champion) (defScope st__law_champion) .none kV_law_champion dc_law_champion pm_law_champion an_law_champion cd_law_champion ct_law_champion), sl_law_champion⟩)
    (c_law_champion : PySem.W.codeIn K cd_law_champion "_law_champion" = true)
    (k_law_champion : PySem.W.keepIn K (.ref f_law_champion) = true)
    (a_law_like : PySem.W.nsIn K mainGlobals "_law_like" = some (some (.ref f_law_like)))
    (l_law_like : K.lookup f_law_like = some ⟨oc_law_like, od_law_like, .func (PySem.W.fnOf "_law_like" "_law_like" (defArgs st__law_like) (defBody st__law_like) (defScope st__law_like) .none kV_law_like dc_law_like pm_law_like an_law_like cd_law_like ct_law_like), sl_law_like⟩)
    (c_law_like : PySem.W.codeIn K cd_law_like "_law_like" = true)
    (k_law_like : PySem.W.keepIn K (.ref f_law_like) = true)
    (a_law_hand : PySem.W.nsIn K mainGlobals "_law_hand" = some (some (.ref f_law_hand)))
    (l_law_hand : K.lookup f_law_hand = some ⟨oc_law_hand, od_law_hand, .func (PySem.W.fnOf "_law_hand" "_law_hand" (defArgs st__law_hand) (defBody st__law_hand) (defScope st__law_hand) .none kV_law_hand dc_law_hand pm_law_hand an_law_hand cd_law_hand ct_law_hand), sl_law_hand⟩)
    (c_law_hand : PySem.W.codeIn K cd_law_hand "_law_hand" = true)
    (k_law_hand : PySem.W.keepIn K (.ref f_law_hand) = true)
    (a_law_most : PySem.W.nsIn K mainGlobals "_law_most" = some (some (.ref f_law_most)))
    (l_law_most : K.lookup f_law_most = some ⟨oc_law_most, od_law_most, .func (PySem.W.fnOf "_law_most" "_law_most" (defArgs st__law_most) (defBody st__law_most) (defScope st__law_most) .none kV_law_most dc_law_most pm_law_most an_law_most cd_law_most ct_law_most), sl_law_most⟩)
    (c_law_most : PySem.W.codeIn K cd_law_most "_law_most" = true)
    (k_law_most : PySem.W.keepIn K (.ref f_law_most) = true)
    (a_law_is_case_right : PySem.W.nsIn K mainGlobals "_law_is_case_right" = some (some (.ref f_law_is_case_right)))
    (l_law_is_case_right : K.lookup f_law_is_case_right = some ⟨oc_law_is_case_right, od_law_is_case_right, .func (PySem.W.fnOf "_law_is_case_right" "_law_is_case_right" (defArgs st__law_is_case_right) (defBody st__law_is_case_right) (defScope st__law_is_case_right) .none kV_law_is_case_right dc_law_is_case_right pm_law_is_case_right an_law_is_case_right (.ref c) ct_law_is_case_right), sl_law_is_case_right⟩)
    (c_law_is_case_right : PySem.W.codeIn K (.ref c) "_law_is_case_right" = true)
    (k_law_is_case_right : PySem.W.keepIn K (.ref f_law_is_case_right) = true)
    (a_law : PySem.W.nsIn K mainGlobals "law" = some (some (.ref f_law)))
    (l_law : K.lookup f_law = some ⟨oc_law, od_law, .func (PySem.W.fnOf "law" "law" (defArgs st_law) (defBody st_law) (defScope st_law) .none kV_law dc_law pm_law an_law cd_law ct_law), sl_law⟩)
    (c_law : PySem.W.codeIn K cd_law "law" = true)
    (k_law : PySem.W.keepIn K (.ref f_law) = true)
    (z_abs : PySem.W.nsIn K mainGlobals "abs" = some none)
    (z_all : PySem.W.nsIn K mainGlobals "all" = some none)
    (z_any : PySem.W.nsIn K mainGlobals "any" = some none)
    (z_bool : PySem.W.nsIn K mainGlobals "bool" = some none)
    (z_int : PySem.W.nsIn K mainGlobals "int" = some none)
    (z_isinstance : PySem.W.nsIn K mainGlobals "isinstance" = some none)
    (z_len : PySem.W.nsIn K mainGlobals "len" = some none)
    (z_list : PySem.W.nsIn K mainGlobals "list" = some none)
    (z_range : PySem.W.nsIn K mainGlobals "range" = some none)
    (z_repr : PySem.W.nsIn K mainGlobals "repr" = some none)
    (z_set : PySem.W.nsIn K mainGlobals "set" = some none)
    (z_tuple : PySem.W.nsIn K mainGlobals "tuple" = some none)
    (z_ValueError : PySem.W.nsIn K mainGlobals "ValueError" = some none)
    (y_MOST_BEATS : PySem.W.nsIn K mainGlobals "MOST_BEATS" = some (some (.int 8 t_MOST_BEATS)))
    (y_MOST_RIGGED : PySem.W.nsIn K mainGlobals "MOST_RIGGED" = some (some (.int 6 t_MOST_RIGGED)))
    (aP : PySem.W.nsIn K mainGlobals "PlayError" = some (some (.ref CP)))
    (aT : PySem.W.nsIn K mainGlobals "TooMany" = some (some (.ref CT)))
    (rdP : PySem.W.readsIn K CP (.type "type") = true)
    (gaP : PySem.W.specialIn K (.ref CP) "__getattribute__" = some (some (.builtin "type.__getattribute__")))
    (fcP : PySem.W.findCls K (.ref CP) (.type "type") "__init__" = some (.val (.ref fP)))
    (vV : PySem.W.findCls K (.type "ValueError") (.type "type") "__init__" = some (.val (.builtin "ValueError.__init__")))
    (xL : K.lookup CT = some (excClassObj nm qq CT NN bs [.ref CP, .type "ValueError", .type "Exception", .type "BaseException", .type "object"] true sn sub ab col dd m0 m1 m2 m3 m5 "ValueError.__new__"))
    (saT : PySem.W.findIn K (.ref CT) "__setattr__" = some (some (.builtin "object.__setattr__")))
    (exT : PySem.W.subIn K (.ref CT) (.type "BaseException") = some true)
    (tyT : PySem.W.typeIn K (.ref CT) = some (.type "type"))
    (kpT : PySem.W.keepIn K (.ref CT) = true)
    (iT : PySem.W.findIn K (.ref CT) "__init__" = some (some (.ref fT)))
    (tT : PySem.W.typeIn K (.ref fT) = some (.type "function"))
    (nT : PySem.W.findIn K (.ref CT) "most" = some none)
    (gaT : PySem.W.findIn K (.ref CT) "__getattribute__" = some (some (.builtin "BaseException.__getattribute__")))
    (ggT : PySem.W.findIn K (.ref CT) "__getattr__" = some none)
    (hdT : PySem.W.hasDictIn K CT = true)
    (icT : PySem.W.isClsIn K CT = true)
    (ssT : PySem.W.subIn K (.ref CT) (.ref CT) = some true)
    (l_iP : K.lookup fP = some ⟨oc_iP, od_iP, .func (PySem.W.fnOf "__init__" "PlayError.__init__" (defArgs st_pe) (defBody st_pe) (defScope st_pe) .none kV_iP dc_iP pm_iP an_iP cd_iP ct_iP), sl_iP⟩)
    (c_iP : PySem.W.codeIn K cd_iP "PlayError.__init__" = true)
    (k_iP : PySem.W.keepIn K (.ref fP) = true)
    (l_iT : K.lookup fT = some ⟨oc_iT, od_iT, .func (PySem.W.fnOf "__init__" "TooMany.__init__" (defArgs st_tm) (defBody st_tm) (defScope st_tm) .none kV_iT dc_iT pm_iT an_iT cd_iT ct_iT), sl_iT⟩)
    (c_iT : PySem.W.codeIn K cd_iT "TooMany.__init__" = true)
    (k_iT : PySem.W.keepIn K (.ref fT) = true)
    : ∃ fd : FuncData, (∀ (s : Shared) (u : Value), BindsTo s fd ⟨[u], []⟩ [("script", u)]) ∧ ∀ base : Heap, K.In base → base.Ns mainGlobals mg → TabB base mg c P0 → FnG true P w K mg base L2.CX0 8 fa fd ["script"] (spLaw K P0) := by
  have e := hfa.symm.trans (PySem.W.mg_of X G a_law)
  cases e
  have GG : Glo mg := { b_abs := PySem.W.mg_none_of X G z_abs, b_all := PySem.W.mg_none_of X G z_all, b_any := PySem.W.mg_none_of X G z_any, b_bool := PySem.W.mg_none_of X G z_bool, b_int := PySem.W.mg_none_of X G z_int, b_isinstance := PySem.W.mg_none_of X G z_isinstance, b_len := PySem.W.mg_none_of X G z_len, b_list := PySem.W.mg_none_of X G z_list, b_range := PySem.W.mg_none_of X G z_range, b_repr := PySem.W.mg_none_of X G z_repr, b_set := PySem.W.mg_none_of X G z_set, b_tuple := PySem.W.mg_none_of X G z_tuple, c_MOST_BEATS := ⟨_, PySem.W.mg_of X G y_MOST_BEATS⟩, c_MOST_RIGGED := ⟨_, PySem.W.mg_of X G y_MOST_RIGGED⟩ }
  have F_is_integer := fun_mk (st := st_is_integer) l_is_integer c_is_integer k_is_integer
  have b_is_integer := F_is_integer.binds (ps := ["thing"]) fun _ _ _ _ _ _ us hl => match us, hl with | [_], _ => rfl
  have g_is_integer := PySem.W.mg_of X G a_is_integer
  have F_is_within := fun_mk (st := st_is_within) l_is_within c_is_within k_is_within
  have b_is_within := F_is_within.binds (ps := ["thing", "least", "most"]) fun _ _ _ _ _ _ us hl => match us, hl with | [_, _, _], _ => rfl
  have g_is_within := PySem.W.mg_of X G a_is_within
  have F_is_tuple := fun_mk (st := st_is_tuple) l_is_tuple c_is_tuple k_is_tuple
  have b_is_tuple := F_is_tuple.binds (ps := ["thing", "size"]) fun _ _ _ _ _ _ us hl => match us, hl with | [_, _], _ => rfl
  have g_is_tuple := PySem.W.mg_of X G a_is_tuple
  have F_is_sized := fun_mk (st := st_is_sized) l_is_sized c_is_sized k_is_sized
  have b_is_sized := F_is_sized.binds (ps := ["thing", "least", "most"]) fun _ _ _ _ _ _ us hl => match us, hl with | [_, _, _], _ => rfl
  have g_is_sized := PySem.W.mg_of X G a_is_sized
  have F_is_order := fun_mk (st := st_is_order) l_is_order c_is_order k_is_order
  have b_is_order := F_is_order.binds (ps := ["thing", "many"]) fun _ _ _ _ _ _ us hl => match us, hl with | [_, _], _ => rfl
  have g_is_order := PySem.W.mg_of X G a_is_order
  have F_orders_of := fun_mk (st := st_orders_of) l_orders_of c_orders_of k_orders_of
  have b_orders_of := F_orders_of.binds (ps := ["things"]) fun _ _ _ _ _ _ us hl => match us, hl with | [_], _ => rfl
  have g_orders_of := PySem.W.mg_of X G a_orders_of
  have F_check_team := fun_mk (st := st_check_team) l_check_team c_check_team k_check_team
  have b_check_team := F_check_team.binds (ps := ["many", "thing"]) fun _ _ _ _ _ _ us hl => match us, hl with | [_, _], _ => rfl
  have g_check_team := PySem.W.mg_of X G a_check_team
  have F_are_beats := fun_mk (st := st_are_beats) l_are_beats c_are_beats k_are_beats
  have b_are_beats := F_are_beats.binds (ps := ["thing"]) fun _ _ _ _ _ _ us hl => match us, hl with | [_], _ => rfl
  have g_are_beats := PySem.W.mg_of X G a_are_beats
  have F_check_beats := fun_mk (st := st_check_beats) l_check_beats c_check_beats k_check_beats
  have b_check_beats := F_check_beats.binds (ps := ["thing"]) fun _ _ _ _ _ _ us hl => match us, hl with | [_], _ => rfl
  have g_check_beats := PySem.W.mg_of X G a_check_beats
  have F_kings := fun_mk (st := st_kings) l_kings c_kings k_kings
  have b_kings := F_kings.binds (ps := ["beats"]) fun _ _ _ _ _ _ us hl => match us, hl with | [_], _ => rfl
  have g_kings := PySem.W.mg_of X G a_kings
  have F_raw_champion := fun_mk (st := st_raw_champion) l_raw_champion c_raw_champion k_raw_champion
  have b_raw_champion := F_raw_champion.binds (ps := ["beats", "order"]) fun _ _ _ _ _ _ us hl => match us, hl with | [_, _], _ => rfl
  have g_raw_champion := PySem.W.mg_of X G a_raw_champion
  have F_champion := fun_mk (st := st_champion) l_champion c_champion k_champion
  have b_champion := F_champion.binds (ps := ["beats", "order"]) fun _ _ _ _ _ _ us hl => match us, hl with | [_, _], _ => rfl
  have g_champion := PySem.W.mg_of X G a_champion
  have F_rigged := fun_mk (st := st_rigged) l_rigged c_rigged k_rigged
  have b_rigged := F_rigged.binds (ps := ["beats", "team"]) fun _ _ _ _ _ _ us hl => match us, hl with | [_, _], _ => rfl
  have g_rigged := PySem.W.mg_of X G a_rigged
  have F_law_draw := fun_mk (st := st__law_draw) l_law_draw c_law_draw k_law_draw
  have b_law_draw := F_law_draw.binds (ps := ["hand", "many"]) fun _ _ _ _ _ _ us hl => match us, hl with | [_, _], _ => rfl
  have g_law_draw := PySem.W.mg_of X G a_law_draw
  have F_law_any := fun_mk (st := st__law_any) l_law_any c_law_any k_law_any
  have b_law_any := F_law_any.binds (ps := ["hand", "things"]) fun _ _ _ _ _ _ us hl => match us, hl with | [_, _], _ => rfl
  have g_law_any := PySem.W.mg_of X G a_law_any
  have F_law_order := fun_mk (st := st__law_order) l_law_order c_law_order k_law_order
  have b_law_order := F_law_order.binds (ps := ["hand", "many"]) fun _ _ _ _ _ _ us hl => match us, hl with | [_, _], _ => rfl
  have g_law_order := PySem.W.mg_of X G a_law_order
  have F_law_orders := fun_mk (st := st__law_orders) l_law_orders c_law_orders k_law_orders
  have b_law_orders := F_law_orders.binds (ps := ["many"]) fun _ _ _ _ _ _ us hl => match us, hl with | [_], _ => rfl
  have g_law_orders := PySem.W.mg_of X G a_law_orders
  have F_law_beats := fun_mk (st := st__law_beats) l_law_beats c_law_beats k_law_beats
  have b_law_beats := F_law_beats.binds (ps := ["hand"]) fun _ _ _ _ _ _ us hl => match us, hl with | [_], _ => rfl
  have g_law_beats := PySem.W.mg_of X G a_law_beats
  have F_law_kings := fun_mk (st := st__law_kings) l_law_kings c_law_kings k_law_kings
  have b_law_kings := F_law_kings.binds (ps := ["beats"]) fun _ _ _ _ _ _ us hl => match us, hl with | [_], _ => rfl
  have g_law_kings := PySem.W.mg_of X G a_law_kings
  have F_law_champion := fun_mk (st := st__law_champion) l_law_champion c_law_champion k_law_champion
  have b_law_champion := F_law_champion.binds (ps := ["beats", "order"]) fun _ _ _ _ _ _ us hl => match us, hl with | [_, _], _ => rfl
  have g_law_champion := PySem.W.mg_of X G a_law_champion
  have F_law_like := fun_mk (st := st__law_like) l_law_like c_law_like k_law_like
  have b_law_like := F_law_like.binds (ps := ["told", "due"]) fun _ _ _ _ _ _ us hl => match us, hl with | [_, _], _ => rfl
  have g_law_like := PySem.W.mg_of X G a_law_like
  have F_law_hand := fun_mk (st := st__law_hand) l_law_hand c_law_hand k_law_hand
  have b_law_hand := F_law_hand.binds (ps := ["script"]) fun _ _ _ _ _ _ us hl => match us, hl with | [_], _ => rfl
  have g_law_hand := PySem.W.mg_of X G a_law_hand
  have F_law_most := fun_mk (st := st__law_most) l_law_most c_law_most k_law_most
  have b_law_most := F_law_most.binds (ps := ["call"]) fun _ _ _ _ _ _ us hl => match us, hl with | [_], _ => rfl
  have g_law_most := PySem.W.mg_of X G a_law_most
  have F_law_is_case_right := fun_mk (st := st__law_is_case_right) l_law_is_case_right c_law_is_case_right k_law_is_case_right
  have b_law_is_case_right := F_law_is_case_right.binds (ps := ["hand", "beats"]) fun _ _ _ _ _ _ us hl => match us, hl with | [_, _], _ => rfl
  have g_law_is_case_right := PySem.W.mg_of X G a_law_is_case_right
  have F_law := fun_mk (st := st_law) l_law c_law k_law
  have b_law := F_law.binds (ps := ["script"]) fun _ _ _ _ _ _ us hl => match us, hl with | [_], _ => rfl
  have F_iP := fun_mk (st := st_pe) l_iP c_iP k_iP
  have b_iP := F_iP.binds (ps := ["self"]) fun _ _ _ _ _ _ us hl => match us, hl with | [_], _ => rfl
  have F_iT := fun_mk (st := st_tm) l_iT c_iT k_iT
  have b_iT := F_iT.binds (ps := ["self", "most"]) fun _ _ _ _ _ _ us hl => match us, hl with | [_, _], _ => rfl
  have T : ClsF K mg CP CT fP fT :=
    { mP := PySem.W.mg_of X G aP, rP := ⟨rdP, gaP⟩, cP := fcP, kP := k_iP, mT := PySem.W.mg_of X G aT, oT := ⟨⟨nm, qq, NN, bs, _, sn, sub, ab, col, dd, m0, m1, m2, m3, m5, xL, by first | rfl | decide +kernel⟩, saT, exT, tyT, kpT⟩, iT := iT, tT := tT, nT := nT,
      xT := ⟨gaT, ggT, exT, hdT⟩, eT := exm_own exT icT tyT ssT }
  refine ⟨PySem.W.fnOf "law" "law" (defArgs st_law) (defBody st_law) (defScope st_law) .none kV_law dc_law pm_law an_law cd_law ct_law, fun s u => .of_eq rfl, fun base _ _ TB => ?_⟩
  have K_is_integer : ∀ g : Bool, CalG g P w K mg base 1 "is_integer" S_is_integer 1 := fun g => DL.c_is_integer GG  F_is_integer g_is_integer b_is_integer v_is_integer
  have K_is_within : ∀ g : Bool, CalG g P w K mg base 2 "is_within" S_is_within 3 := fun g => DL.c_is_within GG (K_is_integer g) F_is_within g_is_within b_is_within v_is_within
  have K_is_tuple : ∀ g : Bool, CalG g P w K mg base 1 "is_tuple" S_is_tuple 2 := fun g => DL.c_is_tuple GG  F_is_tuple g_is_tuple b_is_tuple v_is_tuple
  have K_is_sized : ∀ g : Bool, CalG g P w K mg base 1 "is_sized" S_is_sized 3 := fun g => DL.c_is_sized GG  F_is_sized g_is_sized b_is_sized v_is_sized
  have K_is_order : ∀ g : Bool, CalG g P w K mg base 3 "is_order" S_is_order 2 := fun g => DL.c_is_order GG (K_is_tuple g) (K_is_within g) F_is_order g_is_order b_is_order v_is_order
  have K_orders_of : ∀ g : Bool, CalG g P w K mg base 1 "orders_of" S_orders_of 1 := fun g => DL.c_orders_of GG  F_orders_of g_orders_of b_orders_of v_orders_of
  have K_check_team : ∀ g : Bool, CalG g P w K mg base 3 "check_team" S_check_team 2 := fun g => DL.c_check_team GG (K_is_within g) F_check_team g_check_team b_check_team v_check_team
  have K_are_beats : ∀ g : Bool, CalG g P w K mg base 2 "are_beats" S_are_beats 1 := fun g => DL.c_are_beats GG (K_is_sized g) (K_is_tuple g) F_are_beats g_are_beats b_are_beats v_are_beats
  have K_check_beats : ∀ g : Bool, CalG g P w K mg base 3 "check_beats" S_check_beats 1 := fun g => DL.c_check_beats GG (K_are_beats g) F_check_beats g_check_beats b_check_beats v_check_beats
  have K_kings : ∀ g : Bool, CalG g P w K mg base 4 "kings" S_kings 1 := fun g => DL.c_kings GG (K_check_beats g) F_kings g_kings b_kings v_kings
  have K_raw_champion : ∀ g : Bool, CalG g P w K mg base 1 "raw_champion" S_raw_champion 2 := fun g => DL.c_raw_champion GG  F_raw_champion g_raw_champion b_raw_champion v_raw_champion
  have K_champion : ∀ g : Bool, CalG g P w K mg base 4 "champion" S_champion 2 := fun g => DL.c_champion GG (K_check_beats g) (K_is_order g) (K_raw_champion g) F_champion g_champion b_champion v_champion
  have K_rigged : ∀ g : Bool, CalG g P w K mg base 4 "rigged" S_rigged 2 := fun g => DL.c_rigged GG (K_check_beats g) (K_check_team g) (K_orders_of g) (K_raw_champion g) F_rigged g_rigged b_rigged v_rigged
  have K_law_draw : ∀ g : Bool, CalG g P w K mg base 1 "_law_draw" S__law_draw 2 := fun g => DL.c__law_draw GG  F_law_draw g_law_draw b_law_draw
  have K_law_any : ∀ g : Bool, CalG g P w K mg base 2 "_law_any" S__law_any 2 := fun g => DL.c__law_any GG (K_law_draw g) F_law_any g_law_any b_law_any v__law_any
  have K_law_order : ∀ g : Bool, CalG g P w K mg base 2 "_law_order" S__law_order 2 := fun g => DL.c__law_order GG (K_law_draw g) F_law_order g_law_order b_law_order v__law_order
  have K_law_orders : ∀ g : Bool, CalG g P w K mg base 1 "_law_orders" S__law_orders 1 := fun g => DL.c__law_orders GG  F_law_orders g_law_orders b_law_orders v__law_orders
  have K_law_beats : ∀ g : Bool, CalG g P w K mg base 3 "_law_beats" S__law_beats 1 := fun g => DL.c__law_beats GG (K_law_draw g) (K_law_any g) F_law_beats g_law_beats b_law_beats v__law_beats
  have K_law_kings : ∀ g : Bool, CalG g P w K mg base 1 "_law_kings" S__law_kings 1 := fun g => DL.c__law_kings GG  F_law_kings g_law_kings b_law_kings v__law_kings
  have K_law_champion : ∀ g : Bool, CalG g P w K mg base 1 "_law_champion" S__law_champion 2 := fun g => DL.c__law_champion GG  F_law_champion g_law_champion b_law_champion v__law_champion
  have K_law_like : CalG true P w K mg base 1 "_law_like" S__law_like 2 := DL.c__law_like GG F_law_like g_law_like b_law_like v__law_like
  have FP : FnG false P w K mg base L2.CX0 1 fP _ ["self"] (spPE K) := fn_pe F_iP (PySem.W.mg_none_of X G z_ValueError) vV
  have FT : FnG false P w K mg base L2.CX0 2 fT _ ["self", "most"] (spTM K) := fn_tm T FP b_iP F_iT
  have FR : FnG false P w K mg base (L2.CX P w) 4 f_rigged _ ["beats", "team"] (spRaise K mg CT) := fn_rigR GG T FT b_iT (K_check_beats false) (K_check_team false) F_rigged
  have M : MostF P w K mg base [(P0, qnC ++ "<lambda>")] c P0 := ⟨⟨f_law_most, CP, CT, fP, fT, f_rigged, _, _, _, _, _, _, _, _, _, _, _, _, T, FR, g_rigged, k_rigged, b_rigged, K_law_draw false, g_law_most, k_law_most, l_law_most, c_law_most, b_law_most⟩, TB⟩
  have CC : CalG true P w K mg base 7 "_law_is_case_right" (S__law_is_case_right [(P0, qnC ++ "<lambda>")]) 2 := ⟨f_law_is_case_right, _, ["hand", "beats"], fn_Dk l_law_is_case_right c_law_is_case_right sc__law_is_case_right
    (fun J A outer s H E hr _ => b__law_is_case_right GG (K_kings true) (K_law_kings true) K_law_like (K_law_order true) (K_champion true) (K_law_champion true) (K_law_orders true) (K_rigged true) [(P0, qnC ++ "<lambda>")] J hr M rfl (List.mem_singleton.mpr rfl) (fun p hp _ => by rw [List.mem_singleton.mp hp]))
    (v__law_is_case_right [(P0, qnC ++ "<lambda>")]), g_law_is_case_right, k_law_is_case_right, b_law_is_case_right⟩
  exact fn_law GG (fn_hand GG F_law_hand) g_law_hand k_law_hand b_law_hand (K_law_beats true) CC F_law

theorem law_go {P : Program} {w : World} {K : PySem.W.Frag} {mg mb : Str → Option Value} {fa a : Addr} {S : Shared} {vs : List Value} {ns : List Int}
    {f_is_integer f_is_within f_is_tuple f_is_sized f_is_order f_orders_of f_check_team f_are_beats f_check_beats f_kings f_raw_champion f_champion f_rigged f_law_draw f_law_any f_law_order f_law_orders f_law_beats f_law_kings f_law_champion f_law_like f_law_hand f_law_most f_law_is_case_right f_law fP fT CP CT c P0 : Addr}
    {od_is_integer an_is_integer od_is_within an_is_within od_is_tuple an_is_tuple od_is_sized an_is_sized od_is_order an_is_order od_orders_of an_orders_of od_check_team an_check_team od_are_beats an_are_beats od_check_beats an_check_beats od_kings an_kings od_raw_champion an_raw_champion od_champion an_champion od_rigged an_rigged od_law_draw an_law_draw od_law_any an_law_any od_law_order an_law_order od_law_orders an_law_orders od_law_beats an_law_beats od_law_kings an_law_kings od_law_champion an_law_champion od_law_like an_law_like od_law_hand an_law_hand od_law_most an_law_most od_law_is_case_right an_law_is_case_right od_law an_law od_iP an_iP od_iT an_iT : Option Addr}
    {sl_is_integer sl_is_within sl_is_tuple sl_is_sized sl_is_order sl_orders_of sl_check_team sl_are_beats sl_check_beats sl_kings sl_raw_champion sl_champion sl_rigged sl_law_draw sl_law_any sl_law_order sl_law_orders sl_law_beats sl_law_kings sl_law_champion sl_law_like sl_law_hand sl_law_most sl_law_is_case_right sl_law sl_iP sl_iT : Array (Option Value)}
    {oc_is_integer kV_is_integer dc_is_integer pm_is_integer ct_is_integer cd_is_integer oc_is_within kV_is_within dc_is_within pm_is_within ct_is_within cd_is_within oc_is_tuple kV_is_tuple dc_is_tuple pm_is_tuple ct_is_tuple cd_is_tuple oc_is_sized kV_is_sized dc_is_sized pm_is_sized ct_is_sized cd_is_sized oc_is_order kV_is_order dc_is_order pm_is_order ct_is_order cd_is_order oc_orders_of kV_orders_of dc_orders_of pm_orders_of ct_orders_of cd_orders_of oc_check_team kV_check_team dc_check_team pm_check_team ct_check_team cd_check_team oc_are_beats kV_are_beats dc_are_beats pm_are_beats ct_are_beats cd_are_beats oc_check_beats kV_check_beats dc_check_beats pm_check_beats ct_check_beats cd_check_beats oc_kings kV_kings dc_kings pm_kings ct_kings cd_kings oc_raw_champion kV_raw_champion dc_raw_champion pm_raw_champion ct_raw_champion cd_raw_champion oc_champion kV_champion dc_champion pm_champion ct_champion cd_champion oc_rigged kV_rigged dc_rigged pm_rigged ct_rigged cd_rigged oc_law_draw kV_law_draw dc_law_draw pm_law_draw ct_law_draw cd_law_draw oc_law_any kV_law_any dc_law_any pm_law_any ct_law_any cd_law_any oc_law_order kV_law_order dc_law_order pm_law_order ct_law_order cd_law_order oc_law_orders kV_law_orders dc_law_orders pm_law_orders ct_law_orders cd_law_orders oc_law_beats kV_law_beats dc_law_beats pm_law_beats ct_law_beats cd_law_beats oc_law_kings kV_law_kings dc_law_kings pm_law_kings ct_law_kings cd_law_kings oc_law_champion kV_law_champion dc_law_champion pm_law_champion ct_law_champion cd_law_champion oc_law_like kV_law_like dc_law_like pm_law_like ct_law_like cd_law_like oc_law_hand kV_law_hand dc_law_hand pm_law_hand ct_law_hand cd_law_hand oc_law_most kV_law_most dc_law_most pm_law_most ct_law_most cd_law_most oc_law_is_case_right kV_law_is_case_right dc_law_is_case_right pm_law_is_case_right ct_law_is_case_right oc_law kV_law dc_law pm_law ct_law cd_law oc_iP kV_iP dc_iP pm_iP ct_iP cd_iP oc_iT kV_iT dc_iT pm_iT ct_iT cd_iT : Value}
    {t_MOST_BEATS t_MOST_RIGGED : Tok}
    {nm qq : Str} {NN : Addr} {bs : List Value} {sn : List Str} {sub : List Value} {ab : Bool} {col : Option Bool} {dd : Option Addr} {m0 m1 m2 m3 m5 : Option Value}
    (inK : K.In S.heap) (nsG : S.heap.Ns mainGlobals mg) (nsB : S.heap.Ns builtinsNs mb) (boots : ∀ y : Str, y ≠ "__name__" → mb y = bootBuiltins y) (free : S.heap.NoLimit) (gen0 : S.gens = #[]) (tab : S.heap.get? P0 = some { cls := .none, data := .fields #[] })
    (bmod : ∃ (bm : Addr) (ob : Obj), mg "__builtins__" = some (.ref bm) ∧ bm ≠ builtinsNs ∧ S.heap.get? bm = some ob ∧ ob.cls = .type "module" ∧ ob.dict = some builtinsNs ∧ ob.data = .plain)
    (scr : S.heap.get? a = some { cls := .type "list", data := .seq vs.toArray }) (intz : IntsAre vs ns) (short : ns.length ≤ 63) (hfa : mg "law" = some (.ref fa))
    (a_is_integer : PySem.W.nsIn K mainGlobals "is_integer" = some (some (.ref f_is_integer)))
    (l_is_integer : K.lookup f_is_integer = some ⟨oc_is_integer, od_is_integer, .func (PySem.W.fnOf "is_integer" "is_integer" (defArgs st_is_integer) (defBody st_is_integer) (defScope st_is_integer) .none kV_is_integer dc_is_integer pm_is_integer an_is_integer cd_is_integer ct_is_integer), sl_is_integer⟩)
    (c_is_integer : PySem.W.codeIn K cd_is_integer "is_integer" = true)
    (k_is_integer : PySem.W.keepIn K (.ref f_is_integer) = true)
    (a_is_within : PySem.W.nsIn K mainGlobals "is_within" = some (some (.ref f_is_within)))
    (l_is_within : K.lookup f_is_within = some ⟨oc_is_within, od_is_within, .func (PySem.W.fnOf "is_within" "is_within" (defArgs st_is_within) (defBody st_is_within) (defScope st_is_within) .none kV_is_within dc_is_within pm_is_within an_is_within cd_is_within ct_is_within), sl_is_within⟩)
    (c_is_within : PySem.W.codeIn K cd_is_within "is_within" = true)
    (k_is_within : PySem.W.keepIn K (.ref f_is_within) = true)
    (a_is_tuple : PySem.W.nsIn K mainGlobals "is_tuple" = some (some (.ref f_is_tuple)))
    (l_is_tuple : K.lookup f_is_tuple = some ⟨oc_is_tuple, od_is_tuple, .func (PySem.W.fnOf "is_tuple" "is_tuple" (defArgs st_is_tuple) (defBody st_is_tuple) (defScope st_is_tuple) .none kV_is_tuple dc_is_tuple pm_is_tuple an_is_tuple cd_is_tuple ct_is_tuple), sl_is_tuple⟩)
    (c_is_tuple : PySem.W.codeIn K cd_is_tuple "is_tuple" = true)
    (k_is_tuple : PySem.W.keepIn K (.ref f_is_tuple) = true)
    (a_is_sized : PySem.W.nsIn K mainGlobals "is_sized" = some (some (.ref f_is_sized)))
    (l_is_sized : K.lookup f_is_sized = some ⟨oc_is_sized, od_is_sized, .func (PySem.W.fnOf "is_sized" "is_sized" (defArgs st_is_sized) (defBody st_is_sized) (defScope st_is_sized) .none kV_is_sized dc_is_sized pm_is_sized an_is_sized cd_is_sized ct_is_sized), sl_is_sized⟩)
    (c_is_sized : PySem.W.codeIn K cd_is_sized "is_sized" = true)
    (k_is_sized : PySem.W.keepIn K (.ref f_is_sized) = true)
    (a_is_order : PySem.W.nsIn K mainGlobals "is_order" = some (some (.ref f_is_order)))
    (l_is_order : K.lookup f_is_order = some ⟨oc_is_order, od_is_order, .func (PySem.W.fnOf "is_order" "is_order" (defArgs st_is_order) (defBody st_is_order) (defScope st_is_order) .none kV_is_order dc_is_order pm_is_order an_is_order cd_is_order ct_is_order), sl_is_order⟩)
    (c_is_order : PySem.W.codeIn K cd_is_order "is_order" = true)
    (k_is_order : PySem.W.keepIn K (.ref f_is_order) = true)
    (a_orders_of : PySem.W.nsIn K mainGlobals "orders_of" = some (some (.ref f_orders_of)))
    (l_orders_of : K.lookup f_orders_of = some ⟨oc_orders_of, od_orders_of, .func (PySem.W.fnOf "orders_of" "orders_of" (defArgs st_orders_of) (defBody st_orders_of) (defScope st_orders_of) .none kV_orders_of dc_orders_of pm_orders_of an_orders_of cd_orders_of ct_orders_of), sl_orders_of⟩)
    (c_orders_of : PySem.W.codeIn K cd_orders_of "orders_of" = true)
    (k_orders_of : PySem.W.keepIn K (.ref f_orders_of) = true)
    (a_check_team : PySem.W.nsIn K mainGlobals "check_team" = some (some (.ref f_check_team)))
    (l_check_team : K.lookup f_check_team = some ⟨oc_check_team, od_check_team, .func (PySem.W.fnOf "check_team" "check_team" (defArgs st_check_team) (defBody st_check_team) (defScope st_check_team) .none kV_check_team dc_check_team pm_check_team an_check_team cd_check_team ct_check_team), sl_check_team⟩)
    (c_check_team : PySem.W.codeIn K cd_check_team "check_team" = true)
    (k_check_team : PySem.W.keepIn K (.ref f_check_team) = true)
    (a_are_beats : PySem.W.nsIn K mainGlobals "are_beats" = some (some (.ref f_are_beats)))
    (l_are_beats : K.lookup f_are_beats = some ⟨oc_are_beats, od_are_beats, .func (PySem.W.fnOf "are_beats" "are_beats" (defArgs st_are_beats) (defBody st_are_beats) (defScope st_are_beats) .none kV_are_beats dc_are_beats pm_are_beats an_are_beats cd_are_beats ct_are_beats), sl_are_beats⟩)
    (c_are_beats : PySem.W.codeIn K cd_are_beats "are_beats" = true)
    (k_are_beats : PySem.W.keepIn K (.ref f_are_beats) = true)
    (a_check_beats : PySem.W.nsIn K mainGlobals "check_beats" = some (some (.ref f_check_beats)))
    (l_check_beats : K.lookup f_check_beats = some ⟨oc_check_beats, od_check_beats, .func (PySem.W.fnOf "check_beats" "check_beats" (defArgs st_check_beats) (defBody st_check_beats) (defScope st_check_beats) .none kV_check_beats dc_check_beats pm_check_beats an_check_beats cd_check_beats ct_check_beats), sl_check_beats⟩)
    (c_check_beats : PySem.W.codeIn K cd_check_beats "check_beats" = true)
    (k_check_beats : PySem.W.keepIn K (.ref f_check_beats) = true)
    (a_kings : PySem.W.nsIn K mainGlobals "kings" = some (some (.ref f_kings)))
    (l_kings : K.lookup f_kings = some ⟨oc_kings, od_kings, .func (PySem.W.fnOf "kings" "kings" (defArgs st_kings) (defBody st_kings) (defScope st_kings) .none kV_kings dc_kings pm_kings an_kings cd_kings ct_kings), sl_kings⟩)
    (c_kings : PySem.W.codeIn K cd_kings "kings" = true)
    (k_kings : PySem.W.keepIn K (.ref f_kings) = true)
    (a_raw_champion : PySem.W.nsIn K mainGlobals "raw_champion" = some (some (.ref f_raw_champion)))
    (l_raw_champion : K.lookup f_raw_champion = some ⟨oc_raw_champion, od_raw_champion, .func (PySem.W.fnOf "raw_champion" "raw_champion" (defArgs st_raw_champion) (defBody st_raw_champion) (defScope st_raw_champion) .none kV_raw_champion dc_raw_champion pm_raw_champion an_raw_champion cd_raw_champion ct_raw_champion), sl_raw_champion⟩)
    (c_raw_champion : PySem.W.codeIn K cd_raw_champion "raw_champion" = true)
    (k_raw_champion : PySem.W.keepIn K (.ref f_raw_champion) = true)
    (a_champion : PySem.W.nsIn K mainGlobals "champion" = some (some (.ref f_champion)))
    (l_champion : K.lookup f_champion = some ⟨oc_champion, od_champion, .func (PySem.W.fnOf "champion" "champion" (defArgs st_champion) (defBody st_champion) (defScope st_champion) .none kV_champion dc_champion pm_champion an_champion cd_champion ct_champion), sl_champion⟩)
    (c_champion : PySem.W.codeIn K cd_champion "champion" = true)
    (k_champion : PySem.W.keepIn K (.ref f_champion) = true)
    (a_rigged : PySem.W.nsIn K mainGlobals "rigged" = some (some (.ref f_rigged)))
    (l_rigged : K.lookup f_rigged = some ⟨oc_rigged, od_rigged, .func (PySem.W.fnOf "rigged" "rigged" (defArgs st_rigged) (defBody st_rigged) (defScope st_rigged) .none kV_rigged dc_rigged pm_rigged an_rigged cd_rigged ct_rigged), sl_rigged⟩)
    (c_rigged : PySem.W.codeIn K cd_rigged "rigged" = true)
    (k_rigged : PySem.W.keepIn K (.ref f_rigged) = true)
    (a_law_draw : PySem.W.nsIn K mainGlobals "_law_draw" = some (some (.ref f_law_draw)))
    (l_law_draw : K.lookup f_law_draw = some ⟨oc_law_draw, od_law_draw, .func (PySem.W.fnOf "_law_draw" "_law_draw" (defArgs st__law_draw) (defBody st__law_draw) (defScope st__law_draw) .none kV_law_draw dc_law_draw pm_law_draw an_law_draw cd_law_draw ct_law_draw), sl_law_draw⟩)
    (c_law_draw : PySem.W.codeIn K cd_law_draw "_law_draw" = true)
    (k_law_draw : PySem.W.keepIn K (.ref f_law_draw) = true)
    (a_law_any : PySem.W.nsIn K mainGlobals "_law_any" = some (some (.ref f_law_any)))
    (l_law_any : K.lookup f_law_any = some ⟨oc_law_any, od_law_any, .func (PySem.W.fnOf "_law_any" "_law_any" (defArgs st__law_any) (defBody st__law_any) (defScope st__law_any) .none kV_law_any dc_law_any pm_law_any an_law_any cd_law_any ct_law_any), sl_law_any⟩)
    (c_law_any : PySem.W.codeIn K cd_law_any "_law_any" = true)
    (k_law_any : PySem.W.keepIn K (.ref f_law_any) = true)
    (a_law_order : PySem.W.nsIn K mainGlobals "_law_order" = some (some (.ref f_law_order)))
    (l_law_order : K.lookup f_law_order = some ⟨oc_law_order, od_law_order, .func (PySem.W.fnOf "_law_order" "_law_order" (defArgs st__law_order) (defBody st__law_order) (defScope st__law_order) .none kV_law_order dc_law_order pm_law_order an_law_order cd_law_order ct_law_order), sl_law_order⟩)
    (c_law_order : PySem.W.codeIn K cd_law_order "_law_order" = true)
    (k_law_order : PySem.W.keepIn K (.ref f_law_order) = true)
    (a_law_orders : PySem.W.nsIn K mainGlobals "_law_orders" = some (some (.ref f_law_orders)))
    (l_law_orders : K.lookup f_law_orders = some ⟨oc_law_orders, od_law_orders, .func (PySem.W.fnOf "_law_orders" "_law_orders" (defArgs st__law_orders) (defBody st__law_orders) (defScope st__law_orders) .none kV_law_orders dc_law_orders pm_law_orders an_law_orders cd_law_orders ct_law_orders), sl_law_orders⟩)
    (c_law_orders : PySem.W.codeIn K cd_law_orders "_law_orders" = true)
    (k_law_orders : PySem.W.keepIn K (.ref f_law_orders) = true)
    (a_law_beats : PySem.W.nsIn K mainGlobals "_law_beats" = some (some (.ref f_law_beats)))
    (l_law_beats : K.lookup f_law_beats = some ⟨oc_law_beats, od_law_beats, .func (PySem.W.fnOf "_law_beats" "_law_beats" (defArgs st__law_beats) (defBody st__law_beats) (defScope st__law_beats) .none kV_law_beats dc_law_beats pm_law_beats an_law_beats cd_law_beats ct_law_beats), sl_law_beats⟩)
    (c_law_beats : PySem.W.codeIn K cd_law_beats "_law_beats" = true)
    (k_law_beats : PySem.W.keepIn K (.ref f_law_beats) = true)
    (a_law_kings : PySem.W.nsIn K mainGlobals "_law_kings" = some (some (.ref f_law_kings)))
    (l_law_kings : K.lookup f_law_kings = some ⟨oc_law_kings, od_law_kings, .func (PySem.W.fnOf "_law_kings" "_law_kings" (defArgs st__law_kings) (defBody st__law_kings) (defScope st__law_kings) .none kV_law_kings dc_law_kings pm_law_kings an_law_kings cd_law_kings ct_law_kings), sl_law_kings⟩)
    (c_law_kings : PySem.W.codeIn K cd_law_kings "_law_kings" = true)
    (k_law_kings : PySem.W.keepIn K (.ref f_law_kings) = true)
    (a_law_champion : PySem.W.nsIn K mainGlobals "_law_champion" = some (some (.ref f_law_champion)))
    (l_law_champion : K.lookup f_law_champion = some ⟨oc_law_champion, od_law_champion, .func (PySem.W.fnOf "_law_champion" "_law_champion" (defArgs st__law_champion) (defBody st__law_champion) (defScope st__law_champion) .none kV_law_champion dc_law_champion pm_law_champion an_law_champion cd_law_champion ct_law_champion), sl_law_champion⟩)
    (c_law_champion : PySem.W.codeIn K cd_law_champion "_law_champion" = true)
    (k_law_champion : PySem.W.keepIn K (.ref f_law_champion) = true)
    (a_law_like : PySem.W.nsIn K mainGlobals "_law_like" = some (some (.ref f_law_like)))
    (l_law_like : K.lookup f_law_like = some ⟨oc_law_like, od_law_like, .func (PySem.W.fnOf "_law_like" "_law_like" (defArgs st__law_like) (defBody st__law_like) (defScope st__law_like) .none kV_law_like dc_law_like pm_law_like an_law_like cd_law_like ct_law_like), sl_law_like⟩)
    (c_law_like : PySem.W.codeIn K cd_law_like "_law_like" = true)
    (k_law_like : PySem.W.keepIn K (.ref f_law_like) = true)
    (a_law_hand : PySem.W.nsIn K mainGlobals "_law_hand" = some (some (.ref f_law_hand)))
    (l_law_hand : K.lookup f_law_hand = some ⟨oc_law_hand, od_law_hand, .func (PySem.W.fnOf "_law_hand" "_law_hand" (defArgs st__law_hand) (defBody st__law_hand) (defScope st__law_hand) .none kV_law_hand dc_law_hand pm_law_hand an_law_hand cd_law_hand ct_law_hand), sl_law_hand⟩)
    (c_law_hand : PySem.W.codeIn K cd_law_hand "_law_hand" = true)
    (k_law_hand : PySem.W.keepIn K (.ref f_law_hand) = true)
    (a_law_most : PySem.W.nsIn K mainGlobals "_law_most" = some (some (.ref f_law_most)))
    (l_law_most : K.lookup f_law_most = some ⟨oc_law_most, od_law_most, .func (PySem.W.fnOf "_law_most" "_law_most" (defArgs st__law_most) (defBody st__law_most) (defScope st__law_most) .none kV_law_most dc_law_most pm_law_most an_law_most cd_law_most ct_law_most), sl_law_most⟩)
    (c_law_most : PySem.W.codeIn K cd_law_most "_law_most" = true)
    (k_law_most : PySem.W.keepIn K (.ref f_law_most) = true)
    (a_law_is_case_right : PySem.W.nsIn K mainGlobals "_law_is_case_right" = some (some (.ref f_law_is_case_right)))
    (l_law_is_case_right : K.lookup f_law_is_case_right = some ⟨oc_law_is_case_right, od_law_is_case_right, .func (PySem.W.fnOf "_law_is_case_right" "_law_is_case_right" (defArgs st__law_is_case_right) (defBody st__law_is_case_right) (defScope st__law_is_case_right) .none kV_law_is_case_right dc_law_is_case_right pm_law_is_case_right an_law_is_case_right (.ref c) ct_law_is_case_right), sl_law_is_case_right⟩)
    (c_law_is_case_right : PySem.W.codeIn K (.ref c) "_law_is_case_right" = true)
    (k_law_is_case_right : PySem.W.keepIn K (.ref f_law_is_case_right) = true)
    (a_law : PySem.W.nsIn K mainGlobals "law" = some (some (.ref f_law)))
    (l_law : K.lookup f_law = some ⟨oc_law, od_law, .func (PySem.W.fnOf "law" "law" (defArgs st_law) (defBody st_law) (defScope st_law) .none kV_law dc_law pm_law an_law cd_law ct_law), sl_law⟩)
    (c_law : PySem.W.codeIn K cd_law "law" = true)
    (k_law : PySem.W.keepIn K (.ref f_law) = true)
    (z_abs : PySem.W.nsIn K mainGlobals "abs" = some none)
    (z_all : PySem.W.nsIn K mainGlobals "all" = some none)
    (z_any : PySem.W.nsIn K mainGlobals "any" = some none)
    (z_bool : PySem.W.nsIn K mainGlobals "bool" = some none)
    (z_int : PySem.W.nsIn K mainGlobals "int" = some none)
    (z_isinstance : PySem.W.nsIn K mainGlobals "isinstance" = some none)
    (z_len : PySem.W.nsIn K mainGlobals "len" = some none)
    (z_list : PySem.W.nsIn K mainGlobals "list" = some none)
    (z_range : PySem.W.nsIn K mainGlobals "range" = some none)
    (z_repr : PySem.W.nsIn K mainGlobals "repr" = some none)
    (z_set : PySem.W.nsIn K mainGlobals "set" = some none)
    (z_tuple : PySem.W.nsIn K mainGlobals "tuple" = some none)
    (z_ValueError : PySem.W.nsIn K mainGlobals "ValueError" = some none)
    (y_MOST_BEATS : PySem.W.nsIn K mainGlobals "MOST_BEATS" = some (some (.int 8 t_MOST_BEATS)))
    (y_MOST_RIGGED : PySem.W.nsIn K mainGlobals "MOST_RIGGED" = some (some (.int 6 t_MOST_RIGGED)))
    (aP : PySem.W.nsIn K mainGlobals "PlayError" = some (some (.ref CP)))
    (aT : PySem.W.nsIn K mainGlobals "TooMany" = some (some (.ref CT)))
    (rdP : PySem.W.readsIn K CP (.type "type") = true)
    (gaP : PySem.W.specialIn K (.ref CP) "__getattribute__" = some (some (.builtin "type.__getattribute__")))
    (fcP : PySem.W.findCls K (.ref CP) (.type "type") "__init__" = some (.val (.ref fP)))
    (vV : PySem.W.findCls K (.type "ValueError") (.type "type") "__init__" = some (.val (.builtin "ValueError.__init__")))
    (xL : K.lookup CT = some (excClassObj nm qq CT NN bs [.ref CP, .type "ValueError", .type "Exception", .type "BaseException", .type "object"] true sn sub ab col dd m0 m1 m2 m3 m5 "ValueError.__new__"))
    (saT : PySem.W.findIn K (.ref CT) "__setattr__" = some (some (.builtin "object.__setattr__")))
    (exT : PySem.W.subIn K (.ref CT) (.type "BaseException") = some true)
    (tyT : PySem.W.typeIn K (.ref CT) = some (.type "type"))
    (kpT : PySem.W.keepIn K (.ref CT) = true)
    (iT : PySem.W.findIn K (.ref CT) "__init__" = some (some (.ref fT)))
    (tT : PySem.W.typeIn K (.ref fT) = some (.type "function"))
    (nT : PySem.W.findIn K (.ref CT) "most" = some none)
    (gaT : PySem.W.findIn K (.ref CT) "__getattribute__" = some (some (.builtin "BaseException.__getattribute__")))
    (ggT : PySem.W.findIn K (.ref CT) "__getattr__" = some none)
    (hdT : PySem.W.hasDictIn K CT = true)
    (icT : PySem.W.isClsIn K CT = true)
    (ssT : PySem.W.subIn K (.ref CT) (.ref CT) = some true)
    (l_iP : K.lookup fP = some ⟨oc_iP, od_iP, .func (PySem.W.fnOf "__init__" "PlayError.__init__" (defArgs st_pe) (defBody st_pe) (defScope st_pe) .none kV_iP dc_iP pm_iP an_iP cd_iP ct_iP), sl_iP⟩)
    (c_iP : PySem.W.codeIn K cd_iP "PlayError.__init__" = true)
    (k_iP : PySem.W.keepIn K (.ref fP) = true)
    (l_iT : K.lookup fT = some ⟨oc_iT, od_iT, .func (PySem.W.fnOf "__init__" "TooMany.__init__" (defArgs st_tm) (defBody st_tm) (defScope st_tm) .none kV_iT dc_iT pm_iT an_iT cd_iT ct_iT), sl_iT⟩)
    (c_iT : PySem.W.codeIn K cd_iT "TooMany.__init__" = true)
    (k_iT : PySem.W.keepIn K (.ref fT) = true)
    (cdH : PySem.W.codeHdIn K c P0 = true)
    (offK : K.lookup P0 = none)
    : codeAny (model P w) callerA (.call (.ref fa) ⟨[.ref a], []⟩) (fun r s' => r = .ok (.ret (.bool true)) ∧ OldK S.heap s'.heap ∧ s'.os = S.os ∧ AllBare s'.gens) S := by
  obtain ⟨fd, hb, hF⟩ := all_mk (P := P) (w := w) inK nsG hfa a_is_integer l_is_integer c_is_integer k_is_integer a_is_within l_is_within c_is_within k_is_within a_is_tuple l_is_tuple c_is_tuple k_is_tuple a_is_sized l_is_sized c_is_sized k_is_sized a_is_order l_is_order c_is_order k_is_order a_orders_of l_orders_of c_orders_of k_orders_of a_check_team l_check_team c_check_team k_check_team a_are_beats l_are_beats c_are_beats k_are_beats a_check_beats l_check_beats c_check_beats k_check_beats a_kings l_kings c_kings k_kings a_raw_champion l_raw_champion c_raw_champion k_raw_champion a_champion l_champion c_champion k_champion a_rigged l_rigged c_rigged k_rigged a_law_draw l_law_draw c_law_draw k_law_draw a_law_any l_law_any c_law_any k_law_any a_law_order l_law_order c_law_order k_law_order a_law_orders l_law_orders c_law_orders k_law_orders a_law_beats l_law_beats c_law_beats k_law_beats a_law_kings l_law_kings c_law_kings k_law_kings a_law_champion l_law_champion c_law_champion k_law_champion a_law_like l_law_like c_law_like k_law_like a_law_hand l_law_hand c_law_hand k_law_hand a_law_most l_law_most c_law_most k_law_most a_law_is_case_right l_law_is_case_right c_law_is_case_right k_law_is_case_right a_law l_law c_law k_law z_abs z_all z_any z_bool z_int z_isinstance z_len z_list z_range z_repr z_set z_tuple z_ValueError y_MOST_BEATS y_MOST_RIGGED aP aT rdP gaP fcP vV xL saT exT tyT kpT iT tT nT gaT ggT hdT icT ssT l_iP c_iP k_iP l_iT c_iT k_iT
  exact law_top inK nsG nsB boots free gen0 tab offK (PySem.W.codeHd_of_K inK cdH) bmod scr intz (small_sz (by omega)) ⟨⟨rfl, by decide, by decide⟩, fun _ => rfl⟩ hF hb fun H hT hS => ⟨a, ns, rfl, hS, short, hT, fun _ => rfl⟩
end DL

open PySem PySem.W PyProof.Rows
set_option maxHeartbeats 0 in
theorem PySem.Challenge.cw_playershouse_k53_whole_kings_and_champio_holds : PySem.Challenge.rw_playershouse_k53_whole_kings_and_champio.Holds := by
  w_on; o_law; k_head; (case hw => w_witness2)
  k_fill
  refine Att.attach_callB (n := 63) rfl rfl fun w s₀ s₁ mg mb fa o pm cd doc a vs ns G Y ho hd hcd hmg hobj hints hlen hbits hg => ?_
  have KX := PySem.W.km_in_of Y
  have TX := PySem.W.km_tabs_of Y _ (List.mem_singleton.mpr rfl)
  refine' DL.law_go KX G.T.g G.T.b G.T.builtins G.T.nolimit hg TX G.T.bmain hobj hints hlen hmg ?a_is_integer ?l_is_integer ?c_is_integer ?k_is_integer ?a_is_within ?l_is_within ?c_is_within ?k_is_within ?a_is_tuple ?l_is_tuple ?c_is_tuple ?k_is_tuple ?a_is_sized ?l_is_sized ?c_is_sized ?k_is_sized ?a_is_order ?l_is_order ?c_is_order ?k_is_order ?a_orders_of ?l_orders_of ?c_orders_of ?k_orders_of ?a_check_team ?l_check_team ?c_check_team ?k_check_team ?a_are_beats ?l_are_beats ?c_are_beats ?k_are_beats ?a_check_beats ?l_check_beats ?c_check_beats ?k_check_beats ?a_kings ?l_kings ?c_kings ?k_kings ?a_raw_champion ?l_raw_champion ?c_raw_champion ?k_raw_champion ?a_champion ?l_champion ?c_champion ?k_champion ?a_rigged ?l_rigged ?c_rigged ?k_rigged ?a_law_draw ?l_law_draw ?c_law_draw ?k_law_draw ?a_law_any ?l_law_any ?c_law_any ?k_law_any ?a_law_order ?l_law_order ?c_law_order ?k_law_order ?a_law_orders ?l_law_orders ?c_law_orders ?k_law_orders ?a_law_beats ?l_law_beats ?c_law_beats ?k_law_beats ?a_law_kings ?l_law_kings ?c_law_kings ?k_law_kings ?a_law_champion ?l_law_champion ?c_law_champion ?k_law_champion ?a_law_like ?l_law_like ?c_law_like ?k_law_like ?a_law_hand ?l_law_hand ?c_law_hand ?k_law_hand ?a_law_most ?l_law_most ?c_law_most ?k_law_most ?a_law_is_case_right ?l_law_is_case_right ?c_law_is_case_right ?k_law_is_case_right ?a_law ?l_law ?c_law ?k_law ?z_abs ?z_all ?z_any ?z_bool ?z_int ?z_isinstance ?z_len ?z_list ?z_range ?z_repr ?z_set ?z_tuple ?z_ValueError ?y_MOST_BEATS ?y_MOST_RIGGED ?aP ?aT ?rdP ?gaP ?fcP ?vV ?xL ?saT ?exT ?tyT ?kpT ?iT ?tT ?nT ?gaT ?ggT ?hdT ?icT ?ssT ?l_iP ?c_iP ?k_iP ?l_iT ?c_iT ?k_iT ?cdH ?offK
  (case a_is_integer => k_is)
  (case l_is_integer => k_is)
  (case c_is_integer => k_is)
  (case k_is_integer => k_is)
  (case a_is_within => k_is)
  (case l_is_within => k_is)
  (case c_is_within => k_is)
  (case k_is_within => k_is)
  (case a_is_tuple => k_is)
  (case l_is_tuple => k_is)
  (case c_is_tuple => k_is)
  (case k_is_tuple => k_is)
  (case a_is_sized => k_is)
  (case l_is_sized => k_is)
  (case c_is_sized => k_is)
  (case k_is_sized => k_is)
  (case a_is_order => k_is)
  (case l_is_order => k_is)
  (case c_is_order => k_is)
  (case k_is_order => k_is)
  (case a_orders_of => k_is)
  (case l_orders_of => k_is)
  (case c_orders_of => k_is)
  (case k_orders_of => k_is)
  (case a_check_team => k_is)
  (case l_check_team => k_is)
  (case c_check_team => k_is)
  (case k_check_team => k_is)
  (case a_are_beats => k_is)
  (case l_are_beats => k_is)
  (case c_are_beats => k_is)
  (case k_are_beats => k_is)
  (case a_check_beats => k_is)
  (case l_check_beats => k_is)
  (case c_check_beats => k_is)
  (case k_check_beats => k_is)
  (case a_kings => k_is)
  (case l_kings => k_is)
  (case c_kings => k_is)
  (case k_kings => k_is)
  (case a_raw_champion => k_is)
  (case l_raw_champion => k_is)
  (case c_raw_champion => k_is)
  (case k_raw_champion => k_is)
  (case a_champion => k_is)
  (case l_champion => k_is)
  (case c_champion => k_is)
  (case k_champion => k_is)
  (case a_rigged => k_is)
  (case l_rigged => k_is)
  (case c_rigged => k_is)
  (case k_rigged => k_is)
  (case a_law_draw => k_is)
  (case l_law_draw => k_is)
  (case c_law_draw => k_is)
  (case k_law_draw => k_is)
  (case a_law_any => k_is)
  (case l_law_any => k_is)
  (case c_law_any => k_is)
  (case k_law_any => k_is)
  (case a_law_order => k_is)
  (case l_law_order => k_is)
  (case c_law_order => k_is)
  (case k_law_order => k_is)
  (case a_law_orders => k_is)
  (case l_law_orders => k_is)
  (case c_law_orders => k_is)
  (case k_law_orders => k_is)
  (case a_law_beats => k_is)
  (case l_law_beats => k_is)
  (case c_law_beats => k_is)
  (case k_law_beats => k_is)
  (case a_law_kings => k_is)
  (case l_law_kings => k_is)
  (case c_law_kings => k_is)
  (case k_law_kings => k_is)
  (case a_law_champion => k_is)
  (case l_law_champion => k_is)
  (case c_law_champion => k_is)
  (case k_law_champion => k_is)
  (case a_law_like => k_is)
  (case l_law_like => k_is)
  (case c_law_like => k_is)
  (case k_law_like => k_is)
  (case a_law_hand => k_is)
  (case l_law_hand => k_is)
  (case c_law_hand => k_is)
  (case k_law_hand => k_is)
  (case a_law_most => k_is)
  (case l_law_most => k_is)
  (case c_law_most => k_is)
  (case k_law_most => k_is)
  (case a_law_is_case_right => k_is)
  (case l_law_is_case_right => k_is)
  (case c_law_is_case_right => k_is)
  (case k_law_is_case_right => k_is)
  (case a_law => k_is)
  (case l_law => k_is)
  (case c_law => k_is)
  (case k_law => k_is)
  (case z_abs => k_is)
  (case z_all => k_is)
  (case z_any => k_is)
  (case z_bool => k_is)
  (case z_int => k_is)
  (case z_isinstance => k_is)
  (case z_len => k_is)
  (case z_list => k_is)
  (case z_range => k_is)
  (case z_repr => k_is)
  (case z_set => k_is)
  (case z_tuple => k_is)
  (case z_ValueError => k_is)
  (case y_MOST_BEATS => k_is)
  (case y_MOST_RIGGED => k_is)
  (case aP => k_is)
  (case aT => k_is)
  (case rdP => k_is)
  (case gaP => k_is)
  (case fcP => k_is)
  (case vV => k_is)
  (case xL => k_is)
  (case saT => k_is)
  (case exT => k_is)
  (case tyT => k_is)
  (case kpT => k_is)
  (case iT => k_is)
  (case tT => k_is)
  (case nT => k_is)
  (case gaT => k_is)
  (case ggT => k_is)
  (case hdT => k_is)
  (case icT => k_is)
  (case ssT => k_is)
  (case l_iP => k_is)
  (case c_iP => k_is)
  (case k_iP => k_is)
  (case l_iT => k_is)
  (case c_iT => k_is)
  (case k_iT => k_is)
  (case cdH => first | rfl | kernel_rfl | decide +kernel)
  (case offK => first | rfl | kernel_rfl | decide +kernel)
