import PyProof.Rows.All
import Wide.All
import OpenK.AllK
import Wide.FinOn
import HandS.ForMost
import HandS.ForExc
import HandS.Wide
import HandS.IsInst
import HandS.Flow
import HandS.Sort
import HandS.Conv
import HandS.Lambda
import HandS.WideBits
import HandS.TupMul
import KE.SortData
import KE.DataCmp
import HandS.TupAny
import HandS.Deep
import HandS.RaiseMore
import PyProof.ReprRoads
import HandS.Zip
import HandS.Style
import HandS.Iter
import HandS.NoneIn
import HandS.ExcOwn
import HandS.WordsExc
import HandS.Defaults
import HandS.Text
import HandS.Replace
import HandS.StrMore
import PyProof.NoPylong
import PyProof.StrLawsRepr
import HandS.TupSets
import HandS.SetBool
import KE.KeyNested
import PyProof.ListNew
import HandS.Keys
import PySem.Challenge.RW_onewhere_k28_nearest_spots
set_option Elab.async false
set_option linter.all false
set_option maxRecDepth 100000
/-! The pure layer, part 1: values, how they stand in the heap, judgements. -/
namespace PL
open PySem PySem.Spec PyProof.Rows L2

/-- a pure value: tuples, lists and dicts that nobody changes any more are told whole; ref: an object of the store, or of the written part -/
inductive Pv where
  | non | bl (b : Bool) | int (i : Int) | str (x : Str) | tup (xs : List Pv) | lst (xs : List Pv) | dct (ks vs : List Pv) | ref (a : Addr) | ty (n : String)
  /-- a list that is locked: the script, a list of the written part -/
  | scr (xs : List Pv)

/-- an object that may still be changed -/
inductive Mo where
  | lst (xs : List Pv) | dct (ks vs : List Pv)
  /-- a table of code objects of the name q -/
  | tab (q : Str)
  /-- an exception that was caught, of the class at C -/
  | exc (C : Addr)

abbrev Sto := Addr → Option Mo
/-- a test whose outcome may be open -/
def cnd (b : Bool) (p q : Prop) : Prop := match b with
  | true => p
  | false => q
theorem cnd_i {b : Bool} {p q : Prop} (h : b = true → p) (h' : b = false → q) : cnd b p q := by
  cases b with
  | true => exact h rfl
  | false => exact h' rfl
def put (S : Sto) (a : Addr) (m : Mo) : Sto := fun b => if b = a then some m else S b
def del (S : Sto) (a : Addr) : Sto := fun b => if b = a then none else S b
@[simp] theorem put_same {S : Sto} {a : Addr} {m : Mo} : put S a m a = some m := by simp [put]
@[simp] theorem del_same {S : Sto} {a : Addr} : del S a a = none := by simp [del]
theorem put_ne {S : Sto} {a b : Addr} {m : Mo} (h : b ≠ a) : put S a m b = S b := by simp [put, h]
theorem del_ne {S : Sto} {a b : Addr} (h : b ≠ a) : del S a b = S b := by simp [del, h]
@[simp] theorem put_put {S : Sto} {a : Addr} {m n : Mo} : put (put S a m) a n = put S a n := by
  funext b; simp only [put]; split <;> rfl
theorem del_put {S : Sto} {a : Addr} {m : Mo} (h : S a = none) : del (put S a m) a = S := by
  funext b; simp only [put, del]; split
  · rename_i e; rw [e, h]
  · rfl

section
variable (K : PySem.W.Frag)
mutual
def RepV (H : Hp) (S : Sto) : Pv → V → Prop
  | .non, v => v = .non
  | .bl b, v => v = .bl b
  | .int i, v => v = .int i
  | .str x, v => v = .str x
  | .tup ps, v => ∃ a vs, v = .ref a ∧ SqT K H a vs ∧ RepVs H S ps vs
  | .lst ps, v => ∃ a vs, v = .ref a ∧ H a = some (.lst vs) ∧ S a = none ∧ RepVs H S ps vs
  | .dct ks ps, v => ∃ a kvs, v = .ref a ∧ Rd H a (.dK kvs) ∧ S a = none ∧ RepVs H S ks (kvs.map fun kv => kV kv.1) ∧ RepVs H S ps (kvs.map (·.2))
  | .ref a, v => v = .ref a
  | .ty n, v => v = .ty n
  | .scr ps, v => ∃ a vs, v = .ref a ∧ ((∃ o, H a = some (.frz o (.lst vs))) ∨ SqL K (fun _ => none) a vs) ∧ RepVs H S ps vs
def RepVs (H : Hp) (S : Sto) : List Pv → List V → Prop
  | [], vs => vs = []
  | p :: ps, vs => ∃ v r, vs = v :: r ∧ RepV H S p v ∧ RepVs H S ps r
end
def RepM (H : Hp) (S : Sto) (a : Addr) : Mo → Prop
  | .lst xs => ∃ vs, H a = some (.lst vs) ∧ RepVs K H S xs vs
  | .dct ks ps => ∃ kvs, H a = some (.dK kvs) ∧ RepVs K H S ks (kvs.map fun kv => kV kv.1) ∧ RepVs K H S ps (kvs.map (·.2))
  | .tab q => LamX.TabS H a q
  | .exc C => ∃ oe, H a = some (.frz oe (.own a)) ∧ Zc (.ref C) none oe ∧ ∃ vs, oe.data = .fields vs
def RepS (H : Hp) (S : Sto) : Prop := ∀ a m, S a = some m → RepM K H S a m
end

/-- what a run of code leaves: objects that are not in the store stay; the store takes in new objects alone -/
structure Ext (S : Sto) (H : Hp) (S' : Sto) (H' : Hp) : Prop where
  keep : ∀ a o, H a = some o → S a = none → H' a = some o
  new : ∀ a, S' a ≠ none → S a ≠ none ∨ H a = none
theorem Ext.refl (S : Sto) (H : Hp) : Ext S H S H := ⟨fun _ _ h _ => h, fun _ h => .inl h⟩
theorem Ext.non {S S' : Sto} {H H' : Hp} (e : Ext S H S' H') {a : Addr} {o : HO} (h : H a = some o) (hs : S a = none) : S' a = none := by
  cases q : S' a with
  | none => rfl
  | some m =>
    rcases e.new a (by rw [q]; simp) with z | z
    · exact absurd hs z
    · rw [h] at z; cases z
theorem Ext.trans {S S1 S2 : Sto} {H H1 H2 : Hp} (a : Ext S H S1 H1) (b : Ext S1 H1 S2 H2) : Ext S H S2 H2 where
  keep := fun x o h hs => b.keep x o (a.keep x o h hs) (a.non h hs)
  new := fun x h => by
    rcases b.new x h with z | z
    · exact a.new x z
    · cases q : H x with
      | none => exact .inr rfl
      | some o =>
        left
        intro hs
        rw [a.keep x o q hs] at z
        cases z

section
variable {K : PySem.W.Frag} {H H' : Hp} {S S' : Sto}
/-- the kinds of objects that the store may hold -/
def stoU : HO → Bool
  | .lst _ => true | .dK _ => true | .tbl _ => true | .frz _ (.own _) => true | _ => false
theorem RepS.mut (rs : RepS K H S) {a : Addr} {m : Mo} (h : S a = some m) : ∃ u, H a = some u ∧ stoU u = true := by
  have q := rs a m h
  cases m with
  | lst xs => obtain ⟨vs, e, _⟩ := q; exact ⟨_, e, rfl⟩
  | dct ks ps => obtain ⟨kvs, e, _⟩ := q; exact ⟨_, e, rfl⟩
  | tab n => obtain ⟨ps, e, _⟩ := q; exact ⟨_, e, rfl⟩
  | exc C => obtain ⟨oe, e, _⟩ := q; exact ⟨_, e, rfl⟩
theorem RepS.noS (rs : RepS K H S) {a : Addr} {u : HO} (h : H a = some u) (hu : stoU u = false) : S a = none := by
  cases q : S a with
  | none => rfl
  | some m =>
    obtain ⟨v, e, z⟩ := rs.mut q
    rw [h] at e
    cases e
    rw [hu] at z
    cases z
theorem RepS.tup (rs : RepS K H S) {a : Addr} {vs : List V} (h : Rd H a (.tup vs)) : S a = none := by
  rcases h with h | ⟨o, h⟩
  · exact rs.noS h rfl
  · exact rs.noS h rfl
theorem RepS.frz (rs : RepS K H S) {a : Addr} {o : Obj} {u : HO} (h : H a = some (.frz o u)) (hu : stoU (.frz o u) = false := by rfl) : S a = none := rs.noS h hu
theorem RepS.fr (rs : RepS K H S) {a : Addr} (h : H a = none) : S a = none := by
  cases q : S a with
  | none => rfl
  | some m =>
    obtain ⟨v, e, _⟩ := rs.mut q
    rw [h] at e
    cases e
/-- a table stays one -/
theorem tab_ext (rs : RepS K H S) (e : Ext S H S' H') {a : Addr} {q : Str} (t : LamX.TabS H a q) (h : H' a = H a) : LamX.TabS H' a q := by
  obtain ⟨ps, h1, h2, h3⟩ := t
  refine ⟨ps, h.trans h1, h2, fun pos cv hc => ?_⟩
  obtain ⟨c, e1, e2⟩ := h3 pos cv hc
  exact ⟨c, e1, e.keep c _ e2 (rs.noS e2 rfl)⟩
theorem Rd.ext (e : Ext S H S' H') {a : Addr} {u : HO} (h : Rd H a u) (hs : S a = none) : Rd H' a u ∧ S' a = none := by
  rcases h with h | ⟨o, h⟩
  · exact ⟨.inl (e.keep _ _ h hs), e.non h hs⟩
  · exact ⟨.inr ⟨o, e.keep _ _ h hs⟩, e.non h hs⟩
theorem SqT.ext (rs : RepS K H S) (e : Ext S H S' H') {a : Addr} {vs : List V} (h : SqT K H a vs) : SqT K H' a vs := by
  rcases h with h | h
  · exact .inl (Rd.ext e h (rs.tup h)).1
  · exact .inr h
mutual
theorem RepV.ext (rs : RepS K H S) (e : Ext S H S' H') : ∀ (p : Pv) (v : V), RepV K H S p v → RepV K H' S' p v
  | .non, _, h => h
  | .bl _, _, h => h
  | .int _, _, h => h
  | .str _, _, h => h
  | .tup ps, _, ⟨a, vs, e1, h, r⟩ => ⟨a, vs, e1, SqT.ext rs e h, RepVs.ext rs e ps vs r⟩
  | .lst ps, _, ⟨a, vs, e1, h, hs, r⟩ => ⟨a, vs, e1, e.keep _ _ h hs, e.non h hs, RepVs.ext rs e ps vs r⟩
  | .dct ks ps, _, ⟨a, kvs, e1, h, hs, r1, r2⟩ => ⟨a, kvs, e1, (Rd.ext e h hs).1, (Rd.ext e h hs).2, RepVs.ext rs e ks _ r1, RepVs.ext rs e ps _ r2⟩
  | .ref _, _, h => h
  | .ty _, _, h => h
  | .scr ps, _, ⟨a, vs, e1, h, r⟩ => ⟨a, vs, e1, h.elim (fun ⟨o, z⟩ => .inl ⟨o, e.keep _ _ z (rs.frz z)⟩) .inr, RepVs.ext rs e ps vs r⟩
theorem RepVs.ext (rs : RepS K H S) (e : Ext S H S' H') : ∀ (ps : List Pv) (vs : List V), RepVs K H S ps vs → RepVs K H' S' ps vs
  | [], _, h => h
  | p :: ps, _, ⟨v, r, e1, h1, h2⟩ => ⟨v, r, e1, RepV.ext rs e p v h1, RepVs.ext rs e ps r h2⟩
end
theorem RepVs.len : ∀ {ps : List Pv} {vs : List V}, RepVs K H S ps vs → vs.length = ps.length
  | [], _, h => by have e : _ = [] := h; rw [e]; rfl
  | p :: ps, _, ⟨v, r, e1, h1, h2⟩ => by rw [e1, List.length_cons, List.length_cons, RepVs.len h2]
theorem RepVs.app : ∀ {ps qs : List Pv} {vs us : List V}, RepVs K H S ps vs → RepVs K H S qs us → RepVs K H S (ps ++ qs) (vs ++ us)
  | [], _, _, _, h, k => by have e : _ = [] := h; rw [e]; exact k
  | p :: ps, _, _, _, ⟨v, r, e1, h1, h2⟩, k => ⟨v, r ++ _, by rw [e1]; rfl, h1, RepVs.app h2 k⟩
theorem RepVs.get : ∀ {ps : List Pv} {vs : List V} {i : Nat} {p : Pv}, RepVs K H S ps vs → ps[i]? = some p → ∃ v, vs[i]? = some v ∧ RepV K H S p v
  | [], _, _, _, _, e => by simp at e
  | p :: ps, _, 0, q, ⟨v, r, e1, h1, h2⟩, e => by
    have e' : p = q := by simpa using e
    subst e'
    exact ⟨v, by rw [e1]; rfl, h1⟩
  | p :: ps, _, i + 1, q, ⟨v, r, e1, h1, h2⟩, e => by
    obtain ⟨u, a, b⟩ := RepVs.get (i := i) h2 (by simpa using e)
    exact ⟨u, by rw [e1]; simpa using a, b⟩
theorem RepVs.get' : ∀ {ps : List Pv} {vs : List V} {i : Nat} {v : V}, RepVs K H S ps vs → vs[i]? = some v → ∃ p, ps[i]? = some p ∧ RepV K H S p v
  | [], _, _, _, h, e => by have e0 : _ = [] := h; rw [e0] at e; simp at e
  | p :: ps, _, 0, q, ⟨v, r, e1, h1, h2⟩, e => by
    rw [e1] at e
    have e' : v = q := by simpa using e
    subst e'
    exact ⟨p, rfl, h1⟩
  | p :: ps, _, i + 1, q, ⟨v, r, e1, h1, h2⟩, e => by
    rw [e1] at e
    obtain ⟨u, a, b⟩ := RepVs.get' (i := i) h2 (by simpa using e)
    exact ⟨u, by simpa using a, b⟩
theorem RepVs.take : ∀ {ps : List Pv} {vs : List V} (n : Nat), RepVs K H S ps vs → RepVs K H S (ps.take n) (vs.take n)
  | [], _, n, h => by have e : _ = [] := h; rw [e]; simp [RepVs]
  | p :: ps, _, 0, _ => rfl
  | p :: ps, _, n + 1, ⟨v, r, e1, h1, h2⟩ => ⟨v, r.take n, by rw [e1]; rfl, h1, RepVs.take n h2⟩
theorem RepVs.drop : ∀ {ps : List Pv} {vs : List V} (n : Nat), RepVs K H S ps vs → RepVs K H S (ps.drop n) (vs.drop n)
  | [], _, n, h => by have e : _ = [] := h; rw [e]; simp [RepVs]
  | p :: ps, _, 0, h => h
  | p :: ps, _, n + 1, ⟨v, r, e1, h1, h2⟩ => by rw [e1]; exact RepVs.drop n h2
theorem RepVs.rev : ∀ {ps : List Pv} {vs : List V}, RepVs K H S ps vs → RepVs K H S ps.reverse vs.reverse
  | [], _, h => by have e : _ = [] := h; rw [e]; rfl
  | p :: ps, _, ⟨v, r, e1, h1, h2⟩ => by
    rw [e1, List.reverse_cons, List.reverse_cons]
    exact RepVs.app (RepVs.rev h2) ⟨v, [], rfl, h1, rfl⟩
theorem RepVs.set : ∀ {ps : List Pv} {vs : List V} {p : Pv} {v : V} (i : Nat), RepVs K H S ps vs → RepV K H S p v → RepVs K H S (ps.set i p) (vs.set i v)
  | [], _, _, _, _, h, _ => by have e : _ = [] := h; rw [e]; rfl
  | p :: ps, _, q, u, 0, ⟨v, r, e1, h1, h2⟩, k => ⟨u, r, by rw [e1]; rfl, k, h2⟩
  | p :: ps, _, q, u, i + 1, ⟨v, r, e1, h1, h2⟩, k => ⟨v, r.set i u, by rw [e1]; rfl, h1, RepVs.set i h2 k⟩
theorem RepVs.one {p : Pv} {vs : List V} (h : RepVs K H S [p] vs) : ∃ v, vs = [v] ∧ RepV K H S p v := by
  obtain ⟨v, r, e, h1, h2⟩ := h
  have e2 : r = [] := h2
  exact ⟨v, by rw [e, e2], h1⟩
theorem RepVs.two {p q : Pv} {vs : List V} (h : RepVs K H S [p, q] vs) : ∃ v u, vs = [v, u] ∧ RepV K H S p v ∧ RepV K H S q u := by
  obtain ⟨v, r, e, h1, h2⟩ := h
  obtain ⟨u, rfl, h3⟩ := RepVs.one h2
  exact ⟨v, u, e, h1, h3⟩
end

/-! ### the slots -/
abbrev Env' := List (Option Pv)
def RepE (K : PySem.W.Frag) (H : Hp) (S : Sto) (σ : L2.St) (ρ : Env') : Prop := σ.length = ρ.length ∧ ∀ (i : Nat) (p : Pv), ρ[i]? = some (some p) → ∃ v, σ[i]? = some (some v) ∧ RepV K H S p v
section
variable {K : PySem.W.Frag} {H H' : Hp} {S S' : Sto} {σ : L2.St} {ρ : Env'}
theorem RepE.ext (rs : RepS K H S) (e : Ext S H S' H') (r : RepE K H S σ ρ) : RepE K H' S' σ ρ := ⟨r.1, fun i p h => by
  obtain ⟨v, a, b⟩ := r.2 i p h
  exact ⟨v, a, RepV.ext rs e p v b⟩⟩
theorem RepE.set (r : RepE K H S σ ρ) {p : Pv} {v : V} (i : Nat) (h : RepV K H S p v) : RepE K H S (σ.set i (some v)) (ρ.set i (some p)) := by
  refine ⟨by simpa using r.1, fun j q e => ?_⟩
  by_cases hj : i = j
  · subst hj
    rw [List.getElem?_set] at e
    simp only [if_true] at e
    split at e
    · rename_i hl
      cases e
      refine ⟨v, ?_, h⟩
      rw [List.getElem?_set_self (by rw [r.1]; exact hl)]
    · cases e
  · rw [List.getElem?_set_ne hj] at e
    obtain ⟨u, a, b⟩ := r.2 j q e
    exact ⟨u, by rw [List.getElem?_set_ne hj]; exact a, b⟩
end

/-! ### readings over pure values -/
abbrev QV := Pv → Sto → Prop
abbrev PF := Env' → Sto → QV → Prop
abbrev PFs := Env' → Sto → (List Pv → Sto → Prop) → Prop
abbrev PFB := Env' → Sto → (Bool → Sto → Prop) → Prop
structure Ends' where
  nx : Env' → Sto → Prop
  rt : Pv → Sto → Prop
  bk : Env' → Sto → Prop := fun _ _ => False
  ct : Env' → Sto → Prop := fun _ _ => False
abbrev PFS := Ends' → Env' → Sto → Prop
def Ends'.le (D D' : Ends') : Prop := (∀ r s, D.nx r s → D'.nx r s) ∧ (∀ p s, D.rt p s → D'.rt p s) ∧ (∀ r s, D.bk r s → D'.bk r s) ∧ ∀ r s, D.ct r s → D'.ct r s
theorem Ends'.le.refl (D : Ends') : D.le D := ⟨fun _ _ h => h, fun _ _ h => h, fun _ _ h => h, fun _ _ h => h⟩

def lift (K : PySem.W.Frag) (S0 : Sto) (H0 : Hp) (f : PF) : TE := fun σ H Q => ∃ ρ S, RepE K H S σ ρ ∧ RepS K H S ∧ Ext S0 H0 S H ∧
  f ρ S fun p S' => ∀ v H', RepV K H' S' p v → RepS K H' S' → Ext S H S' H' → Q v H'
def liftA (K : PySem.W.Frag) (S0 : Sto) (H0 : Hp) (f : PFs) : TA := fun σ H Q => ∃ ρ S, RepE K H S σ ρ ∧ RepS K H S ∧ Ext S0 H0 S H ∧
  f ρ S fun ps S' => ∀ vs H', RepVs K H' S' ps vs → RepS K H' S' → Ext S H S' H' → Q vs H'
def liftB (K : PySem.W.Frag) (S0 : Sto) (H0 : Hp) (f : PFB) : TT := fun σ H Q => ∃ ρ S, RepE K H S σ ρ ∧ RepS K H S ∧ Ext S0 H0 S H ∧
  f ρ S fun b S' => ∀ H', RepS K H' S' → Ext S H S' H' → Q b H'
def lE (K : PySem.W.Frag) (S : Sto) (H : Hp) (D : Ends) : Ends' :=
  { nx := fun ρ' S' => ∀ σ' H', RepE K H' S' σ' ρ' → RepS K H' S' → Ext S H S' H' → D.nx σ' H'
    rt := fun p S' => ∀ v H', RepV K H' S' p v → RepS K H' S' → Ext S H S' H' → D.rt v H'
    bk := fun ρ' S' => ∀ σ' H', RepE K H' S' σ' ρ' → RepS K H' S' → Ext S H S' H' → D.bk σ' H'
    ct := fun ρ' S' => ∀ σ' H', RepE K H' S' σ' ρ' → RepS K H' S' → Ext S H S' H' → D.ct σ' H' }
theorem lE_le {K : PySem.W.Frag} {S S1 : Sto} {H H1 : Hp} {D : Ends} (e : Ext S H S1 H1) : (lE K S H D).le (lE K S1 H1 D) :=
  ⟨fun _ _ q σ' H' a1 a2 a3 => q σ' H' a1 a2 (e.trans a3), fun _ _ q v H' a1 a2 a3 => q v H' a1 a2 (e.trans a3), fun _ _ q σ' H' a1 a2 a3 => q σ' H' a1 a2 (e.trans a3), fun _ _ q σ' H' a1 a2 a3 => q σ' H' a1 a2 (e.trans a3)⟩
def liftS (K : PySem.W.Frag) (S0 : Sto) (H0 : Hp) (g : PFS) : TS := fun D σ H => ∃ ρ S, RepE K H S σ ρ ∧ RepS K H S ∧ Ext S0 H0 S H ∧ g (lE K S H D) ρ S

structure PV (X : Cx) (S0 : Sto) (H0 : Hp) (e : Expr) (f : PF) : Prop where
  mono : ∀ ρ S Q Q', (∀ p S', Q p S' → Q' p S') → f ρ S Q → f ρ S Q'
  pe : PE X e (lift X.K S0 H0 f)
structure PVs (X : Cx) (S0 : Sto) (H0 : Hp) (es : List Expr) (f : PFs) : Prop where
  mono : ∀ ρ S Q Q', (∀ p S', Q p S' → Q' p S') → f ρ S Q → f ρ S Q'
  pa : PA X es (liftA X.K S0 H0 f)
structure PB (X : Cx) (S0 : Sto) (H0 : Hp) (e : Expr) (f : PFB) : Prop where
  mono : ∀ ρ S Q Q', (∀ p S', Q p S' → Q' p S') → f ρ S Q → f ρ S Q'
  pt : PT X e (liftB X.K S0 H0 f)
/-- .. whatever its whole is -/
structure PBw (X : Cx) (S0 : Sto) (H0 : Hp) (e : Expr) (f : PFB) : Prop where
  mono : ∀ ρ S Q Q', (∀ p S', Q p S' → Q' p S') → f ρ S Q → f ρ S Q'
  pw : PW X e (liftB X.K S0 H0 f)
structure PZ (X : Cx) (S0 : Sto) (H0 : Hp) (st : Stmt) (g : PFS) : Prop where
  mono : ∀ D D' ρ S, D.le D' → g D ρ S → g D' ρ S
  ps : PS X st (liftS X.K S0 H0 g)
structure PZs (X : Cx) (S0 : Sto) (H0 : Hp) (st : List Stmt) (g : PFS) : Prop where
  mono : ∀ D D' ρ S, D.le D' → g D ρ S → g D' ρ S
  pss : PSs X st (liftS X.K S0 H0 g)

theorem PE.imp {X : Cx} {e : Expr} {t t' : TE} (h : PE X e t) (i : ∀ σ H Q, t' σ H Q → t σ H Q) : PE X e t' := ⟨fun pins s σ H Q I q => h.run pins s σ H Q I (i σ H Q q)⟩
theorem PT.imp {X : Cx} {e : Expr} {t t' : TT} (h : PT X e t) (i : ∀ σ H Q, t' σ H Q → t σ H Q) : PT X e t' := ⟨fun pins s σ H Q I q => h.run pins s σ H Q I (i σ H Q q)⟩
theorem PW.imp {X : Cx} {e : Expr} {t t' : TT} (h : PW X e t) (i : ∀ σ H Q, t' σ H Q → t σ H Q) : PW X e t' := ⟨fun wh pins s σ H Q I q => h.run wh pins s σ H Q I (i σ H Q q)⟩
theorem PA.imp {X : Cx} {e : List Expr} {t t' : TA} (h : PA X e t) (i : ∀ σ H Q, t' σ H Q → t σ H Q) : PA X e t' := ⟨fun pos pins s σ H Q I q => h.run pos pins s σ H Q I (i σ H Q q)⟩
theorem PS.imp {X : Cx} {e : Stmt} {t t' : TS} (h : PS X e t) (i : ∀ D σ H, t' D σ H → t D σ H) : PS X e t' := ⟨fun pins s σ H D I q => h.run pins s σ H D I (i D σ H q)⟩
theorem PSs.imp {X : Cx} {e : List Stmt} {t t' : TS} (h : PSs X e t) (i : ∀ D σ H, t' D σ H → t D σ H) : PSs X e t' := ⟨fun pins s σ H D I q => h.run pins s σ H D I (i D σ H q)⟩

section
variable {X : Cx} {S0 : Sto} {H0 : Hp}

/-! ### names, constants -/
def fVar (i : Nat) : PF := fun ρ S Q => match ρ[i]? with | some (some p) => Q p S | _ => False
def fC (p : Pv) : PF := fun _ S Q => Q p S
theorem pv_var (i : Nat) {x : Str} {pos : Pos} (hN : X.N[i]? = some x := by rfl) (hv : Vis X.env.scope x := by first | exact Or.inl rfl | exact Or.inr (Or.inl rfl) | exact Or.inr (Or.inr rfl)) (hd : (x == ("__debug__" : Str)) = false := by decide)
    (hcd : (x == ("__classdict__" : Str)) = false := by decide) : PV X S0 H0 (.Name x pos) (fVar i) := by
  refine ⟨fun ρ S Q Q' h q => ?_, PE.imp (pe_var hN hv hd hcd) fun σ H Q ⟨ρ, S, re, rs, ex, q⟩ => ?_⟩
  · unfold fVar at q ⊢
    split
    · rename_i p e; rw [e] at q; exact h _ _ q
    · rename_i e; split at q
      · rename_i p e'; exact (e p e').elim
      · exact q
  · unfold fVar at q
    split at q
    · rename_i p e
      obtain ⟨v, a, b⟩ := re.2 i p e
      exact ⟨v, a, q v H b rs (Ext.refl S H)⟩
    · exact q.elim
theorem PV.const {e : Expr} {v : V} {p : Pv} (h : PE X e (tC v)) (r : ∀ H S, RepV X.K H S p v) : PV X S0 H0 e (fC p) :=
  ⟨fun _ _ _ _ h q => h _ _ q, PE.imp h fun _ H Q ⟨_, S, _, rs, _, q⟩ => q v H (r H S) rs (Ext.refl S H)⟩
theorem pv_int {i j pos} : PV X S0 H0 (.Constant (.int i) j pos) (fC (.int i)) := PV.const pe_int fun _ _ => rfl
theorem pv_bl {b j pos} : PV X S0 H0 (.Constant (.bool b) j pos) (fC (.bl b)) := PV.const pe_bl fun _ _ => rfl
theorem pv_non {j pos} : PV X S0 H0 (.Constant .none j pos) (fC .non) := PV.const pe_non fun _ _ => rfl
theorem pv_str {x j pos} : PV X S0 H0 (.Constant (.str x) j pos) (fC (.str x)) := PV.const pe_str fun _ _ => rfl
/-- a name of the module; the reading of its value in the written part -/
def KRep (K : PySem.W.Frag) (p : Pv) (u : Value) : Prop := ∃ v, RelV v u ∧ ∀ H S, RepV K H S p v
theorem pv_glob {x : Str} {p : Pv} {u : Value} {pos : Pos} (hg : Gl X x) (hm : X.mg x = some u) (r : KRep X.K p u) (hd : (x == ("__debug__" : Str)) = false := by decide) : PV X S0 H0 (.Name x pos) (fC p) := by
  obtain ⟨v, r1, r2⟩ := r
  exact PV.const (pe_glob hg hm r1 hd) r2
theorem pv_bltn {x : Str} {T : String} {pos : Pos} (hg : Gl X x) (hm : X.mg x = none) (hv : bootBuiltins x = some (.type T)) (hn : x ≠ "__name__" := by decide) (hd : (x == ("__debug__" : Str)) = false := by decide) : PV X S0 H0 (.Name x pos) (fC (.ty T)) :=
  PV.const (pe_bltn (v := .ty T) hg hm hv rfl hn hd) fun _ _ => rfl

/-! ### lists of expressions -/
def fNil : PFs := fun _ S Q => Q [] S
def fCons (f : PF) (g : PFs) : PFs := fun ρ S Q => f ρ S fun p S1 => g ρ S1 fun ps S2 => Q (p :: ps) S2
theorem pvs_nil : PVs X S0 H0 [] fNil := ⟨fun _ _ _ _ h q => h _ _ q, PA.imp pa_nil fun _ H Q ⟨_, S, _, rs, _, q⟩ => q [] H rfl rs (Ext.refl S H)⟩
theorem pvs_cons {e : Expr} {es : List Expr} {f : PF} {g : PFs} (h1 : PV X S0 H0 e f) (h2 : PVs X S0 H0 es g) (hs : starEach (e :: es) X.env = (false, eval e X.env) :: starEach es X.env := by rfl) : PVs X S0 H0 (e :: es) (fCons f g) := by
  refine ⟨fun ρ S Q Q' h q => h1.mono _ _ _ _ (fun p S1 q => h2.mono _ _ _ _ (fun ps S2 q => h _ _ q) q) q, PA.imp (pa_cons h1.pe h2.pa hs) fun σ H Q ⟨ρ, S, re, rs, ex, q⟩ => ?_⟩
  refine ⟨ρ, S, re, rs, ex, h1.mono _ _ _ _ (fun p S1 q v H1 rv rs1 ex1 => ?_) q⟩
  refine ⟨ρ, S1, re.ext rs ex1, rs1, ex.trans ex1, h2.mono _ _ _ _ (fun ps S2 q vs H2 rvs rs2 ex2 => ?_) q⟩
  exact q (v :: vs) H2 ⟨v, vs, rfl, RepV.ext rs1 ex2 p v rv, rvs⟩ rs2 (ex1.trans ex2)

/-! ### operations by values -/
abbrev O1 := Pv → Sto → QV → Prop
abbrev O2 := Pv → Pv → Sto → QV → Prop
abbrev On := List Pv → Sto → QV → Prop
structure Sim1 (K : PySem.W.Frag) (r : V → Hp → VK → Prop) (o : O1) : Prop where
  mono : ∀ x S Q Q', (∀ p S', Q p S' → Q' p S') → o x S Q → o x S Q'
  run : ∀ x S Qp v H Q, RepV K H S x v → RepS K H S → o x S Qp → (∀ p S' z H', Qp p S' → RepV K H' S' p z → RepS K H' S' → Ext S H S' H' → Q z H') → r v H Q
structure Sim2 (K : PySem.W.Frag) (r : R2) (o : O2) : Prop where
  mono : ∀ x y S Q Q', (∀ p S', Q p S' → Q' p S') → o x y S Q → o x y S Q'
  run : ∀ x y S Qp v u H Q, RepV K H S x v → RepV K H S y u → RepS K H S → o x y S Qp → (∀ p S' z H', Qp p S' → RepV K H' S' p z → RepS K H' S' → Ext S H S' H' → Q z H') → r v u H Q
structure SimN (K : PySem.W.Frag) (r : List V → Hp → VK → Prop) (o : On) : Prop where
  mono : ∀ x S Q Q', (∀ p S', Q p S' → Q' p S') → o x S Q → o x S Q'
  run : ∀ x S Qp v H Q, RepVs K H S x v → RepS K H S → o x S Qp → (∀ p S' z H', Qp p S' → RepV K H' S' p z → RepS K H' S' → Ext S H S' H' → Q z H') → r v H Q

def f1 (o : O1) (f : PF) : PF := fun ρ S Q => f ρ S fun p S1 => o p S1 Q
def f2 (o : O2) (f g : PF) : PF := fun ρ S Q => f ρ S fun p S1 => g ρ S1 fun q S2 => o p q S2 Q
def fN (o : On) (f : PFs) : PF := fun ρ S Q => f ρ S fun ps S1 => o ps S1 Q
variable {a b : Expr} {fa fb : PF} {pos : Pos}
theorem lift1 {r : V → Hp → VK → Prop} {o : O1} (s : Sim1 X.K r o) (ha : PV X S0 H0 a fa) {σ : L2.St} {H : Hp} {Q : VK} (h : lift X.K S0 H0 (f1 o fa) σ H Q) : lift X.K S0 H0 fa σ H fun v H1 => r v H1 Q := by
  obtain ⟨ρ, S, re, rs, ex, q⟩ := h
  refine ⟨ρ, S, re, rs, ex, ha.mono _ _ _ _ (fun p S1 q v H1 rv rs1 ex1 => ?_) q⟩
  exact s.run p S1 _ v H1 Q rv rs1 q fun p' S' z H' q rz rs' ex' => q z H' rz rs' (ex1.trans ex')
theorem lift2 {r : R2} {o : O2} (s : Sim2 X.K r o) (ha : PV X S0 H0 a fa) (hb : PV X S0 H0 b fb) {σ : L2.St} {H : Hp} {Q : VK} (h : lift X.K S0 H0 (f2 o fa fb) σ H Q) :
    lift X.K S0 H0 fa σ H fun v H1 => lift X.K S0 H0 fb σ H1 fun u H2 => r v u H2 Q := by
  obtain ⟨ρ, S, re, rs, ex, q⟩ := h
  refine ⟨ρ, S, re, rs, ex, ha.mono _ _ _ _ (fun p S1 q v H1 rv rs1 ex1 => ?_) q⟩
  refine ⟨ρ, S1, re.ext rs ex1, rs1, ex.trans ex1, hb.mono _ _ _ _ (fun p' S2 q u H2 ru rs2 ex2 => ?_) q⟩
  exact s.run p p' S2 _ v u H2 Q (RepV.ext rs1 ex2 p v rv) ru rs2 q fun p' S' z H' q rz rs' ex' => q z H' rz rs' ((ex1.trans ex2).trans ex')
theorem liftN {es : List Expr} {fs : PFs} {r : List V → Hp → VK → Prop} {o : On} (s : SimN X.K r o) (ha : PVs X S0 H0 es fs) {σ : L2.St} {H : Hp} {Q : VK} (h : lift X.K S0 H0 (fN o fs) σ H Q) : liftA X.K S0 H0 fs σ H fun v H1 => r v H1 Q := by
  obtain ⟨ρ, S, re, rs, ex, q⟩ := h
  refine ⟨ρ, S, re, rs, ex, ha.mono _ _ _ _ (fun p S1 q v H1 rv rs1 ex1 => ?_) q⟩
  exact s.run p S1 _ v H1 Q rv rs1 q fun p' S' z H' q rz rs' ex' => q z H' rz rs' (ex1.trans ex')
theorem f1_mono {o : O1} (m : ∀ x S Q Q', (∀ p S', Q p S' → Q' p S') → o x S Q → o x S Q') (ha : PV X S0 H0 a fa) : ∀ ρ S Q Q', (∀ p S', Q p S' → Q' p S') → f1 o fa ρ S Q → f1 o fa ρ S Q' :=
  fun ρ S Q Q' h q => ha.mono _ _ _ _ (fun p S1 q => m _ _ _ _ h q) q
theorem f2_mono {o : O2} (m : ∀ x y S Q Q', (∀ p S', Q p S' → Q' p S') → o x y S Q → o x y S Q') (ha : PV X S0 H0 a fa) (hb : PV X S0 H0 b fb) : ∀ ρ S Q Q', (∀ p S', Q p S' → Q' p S') → f2 o fa fb ρ S Q → f2 o fa fb ρ S Q' :=
  fun ρ S Q Q' h q => ha.mono _ _ _ _ (fun p S1 q => hb.mono _ _ _ _ (fun p S2 q => m _ _ _ _ _ h q) q) q
theorem fN_mono {es : List Expr} {fs : PFs} {o : On} (m : ∀ x S Q Q', (∀ p S', Q p S' → Q' p S') → o x S Q → o x S Q') (ha : PVs X S0 H0 es fs) : ∀ ρ S Q Q', (∀ p S', Q p S' → Q' p S') → fN o fs ρ S Q → fN o fs ρ S Q' :=
  fun ρ S Q Q' h q => ha.mono _ _ _ _ (fun p S1 q => m _ _ _ _ h q) q

theorem pv_op {op : Operator} {r : R2} {o : O2} (ho : OpR X (binaryOp op) r) (s : Sim2 X.K r o) (ha : PV X S0 H0 a fa) (hb : PV X S0 H0 b fb) : PV X S0 H0 (.BinOp a op b pos) (f2 o fa fb) :=
  ⟨f2_mono s.mono ha hb, PE.imp (pe_op ho ha.pe hb.pe) fun _ _ _ h => lift2 s ha hb h⟩
theorem pv_un {op : UnaryOp} {r : V → Hp → VK → Prop} {o : O1} (ho : UnR X (unaryOp op) r) (s : Sim1 X.K r o) (ha : PV X S0 H0 a fa) : PV X S0 H0 (.UnaryOp op a pos) (f1 o fa) :=
  ⟨f1_mono s.mono ha, PE.imp (pe_un ho ha.pe) fun _ _ _ h => lift1 s ha h⟩
theorem pv_cmp {op : CmpOp} {r : R2} {o : O2} (ho : OpR X (compareOp op) r) (s : Sim2 X.K r o) (ha : PV X S0 H0 a fa) (hb : PV X S0 H0 b fb) (hm : behindInMarks op b = false) : PV X S0 H0 (.Compare a [op] [b] pos) (f2 o fa fb) :=
  ⟨f2_mono s.mono ha hb, PE.imp (pe_cmpR ho ha.pe hb.pe hm) fun _ _ _ h => lift2 s ha hb h⟩
theorem OpR.or {f : Value → Value → Sem Value} {r r' : R2} (h : OpR X f r) (h' : OpR X f r') : OpR X f (fun x y H Q => r x y H Q ∨ r' x y H Q) := fun pins s σ H x y v u Q I rx ry q =>
  q.elim (fun q => h pins s σ H x y v u Q I rx ry q) fun q => h' pins s σ H x y v u Q I rx ry q
theorem UnR.or {f : Value → Sem Value} {r r' : V → Hp → VK → Prop} (h : UnR X f r) (h' : UnR X f r') : UnR X f (fun x H Q => r x H Q ∨ r' x H Q) := fun pins s σ H x v Q I rx q =>
  q.elim (fun q => h pins s σ H x v Q I rx q) fun q => h' pins s σ H x v Q I rx q
theorem CallR.or {f : Value} {r r' : List V → Hp → VK → Prop} (h : CallR X f r) (h' : CallR X f r') : CallR X f (fun x H Q => r x H Q ∨ r' x H Q) := fun pins s σ H x v Q I rx q =>
  q.elim (fun q => h pins s σ H x v Q I rx q) fun q => h' pins s σ H x v Q I rx q
/-- a built-in function, a built-in type, called by its name -/
theorem pv_callB {x : Str} {p : Pos} {e : Expr} {es : List Expr} {fs : PFs} {id : String} {r : List V → Hp → VK → Prop} {o : On} (hc : CallR X (.builtin id) r) (s : SimN X.K r o) (hg : Gl X x) (hm : X.mg x = none) (hv : bootBuiltins x = some (.builtin id)) (ha : PVs X S0 H0 (e :: es) fs) (hn : x ≠ "__name__" := by decide) (hdb : (x == ("__debug__" : Str)) = false := by decide)
    (he : starEach (e :: es) X.env = (false, eval e X.env) :: starEach es X.env := by rfl) (hpl : (backTo pos (starEach es X.env)).any (·.1) = false := by rfl) : PV X S0 H0 (.Call (.Name x p) (e :: es) [] pos) (fN o fs) :=
  ⟨fN_mono s.mono ha, PE.imp (pe_callB hc hg hm hv ha.pa hn hdb he hpl) fun _ _ _ h => liftN s ha h⟩
theorem pv_callTy {x : Str} {p : Pos} {e : Expr} {es : List Expr} {fs : PFs} {T : String} {r : List V → Hp → VK → Prop} {o : On} (hc : CallR X (.type T) r) (s : SimN X.K r o) (hg : Gl X x) (hm : X.mg x = none) (hv : bootBuiltins x = some (.type T)) (ha : PVs X S0 H0 (e :: es) fs) (hn : x ≠ "__name__" := by decide) (hdb : (x == ("__debug__" : Str)) = false := by decide)
    (he : starEach (e :: es) X.env = (false, eval e X.env) :: starEach es X.env := by rfl) (hpl : (backTo pos (starEach es X.env)).any (·.1) = false := by rfl) : PV X S0 H0 (.Call (.Name x p) (e :: es) [] pos) (fN o fs) :=
  ⟨fN_mono s.mono ha, PE.imp (pe_callTy hc hg hm hv ha.pa hn hdb he hpl) fun _ _ _ h => liftN s ha h⟩

/-! ### tuples, lists -/
theorem Ext.newT {K : PySem.W.Frag} {S : Sto} {H : Hp} {p : Addr} {o : HO} (h : H p = none) : Ext S H S (upd H p o) :=
  ⟨fun a u ha _ => by rw [upd_ne (ne_of_none ha h)]; exact ha, fun _ h => .inl h⟩
theorem RepS.ext' {K : PySem.W.Frag} {S : Sto} {H H' : Hp} (rs : RepS K H S) (e : Ext S H S H') (hk : ∀ a m, S a = some m → H' a = H a) : RepS K H' S := fun a m h => by
  have q := rs a m h
  cases m with
  | lst xs => obtain ⟨vs, e1, r⟩ := q; exact ⟨vs, (hk a _ h).trans e1, RepVs.ext rs e _ _ r⟩
  | dct ks ps => obtain ⟨vs, e1, r, r'⟩ := q; exact ⟨vs, (hk a _ h).trans e1, RepVs.ext rs e _ _ r, RepVs.ext rs e _ _ r'⟩
  | tab n => exact tab_ext rs e q (hk a _ h)
  | exc C => obtain ⟨oe, e1, r⟩ := q; exact ⟨oe, (hk a _ h).trans e1, r⟩
theorem RepS.newT {K : PySem.W.Frag} {S : Sto} {H : Hp} {p : Addr} {o : HO} (rs : RepS K H S) (h : H p = none) : RepS K (upd H p o) S :=
  rs.ext' (Ext.newT (K := K) h) fun a m ha => upd_ne (by rintro rfl; rw [rs.fr h] at ha; cases ha)
def oTup : On := fun ps S Q => ps.length ≤ sizeLine ∧ Q (.tup ps) S
def oLst : On := fun ps S Q => ps.length ≤ sizeLine ∧ Q (.lst ps) S
/-- a list that is to be changed -/
def oLstT : On := fun ps S Q => ps.length ≤ sizeLine ∧ ∀ a, S a = none → Q (.ref a) (put S a (.lst ps))
theorem pv_tup {es : List Expr} {fs : PFs} {k : Nat} (h : PVs X S0 H0 es fs) : PV X S0 H0 (.Tuple es k pos) (fN oTup fs) := by
  refine ⟨fN_mono (fun _ _ _ _ h q => ⟨q.1, h _ _ q.2⟩) h, PE.imp (pe_tup h.pa) fun σ H Q ⟨ρ, S, re, rs, ex, q⟩ => ?_⟩
  refine ⟨ρ, S, re, rs, ex, h.mono _ _ _ _ (fun ps S1 q vs H1 rv rs1 ex1 => ⟨by rw [rv.len]; exact q.1, fun p np => ?_⟩) q⟩
  have e := Ext.newT (K := X.K) (S := S1) (o := .tup vs) np
  exact q.2 (.ref p) _ ⟨p, vs, rfl, .inl (.inl upd_same), RepVs.ext rs1 e _ _ rv⟩ (rs1.newT np) (ex1.trans e)
theorem pv_lst {es : List Expr} {fs : PFs} (h : PVs X S0 H0 es fs) : PV X S0 H0 (.List es pos) (fN oLst fs) := by
  refine ⟨fN_mono (fun _ _ _ _ h q => ⟨q.1, h _ _ q.2⟩) h, PE.imp (pe_lst h.pa) fun σ H Q ⟨ρ, S, re, rs, ex, q⟩ => ?_⟩
  refine ⟨ρ, S, re, rs, ex, h.mono _ _ _ _ (fun ps S1 q vs H1 rv rs1 ex1 => ⟨by rw [rv.len]; exact q.1, fun p np => ?_⟩) q⟩
  have e := Ext.newT (K := X.K) (S := S1) (o := .lst vs) np
  exact q.2 (.ref p) _ ⟨p, vs, rfl, upd_same, rs1.fr np, RepVs.ext rs1 e _ _ rv⟩ (rs1.newT np) (ex1.trans e)
/-- a new object goes into the store -/
theorem Ext.newS {S : Sto} {H : Hp} {p : Addr} {o : HO} {m : Mo} (h : H p = none) : Ext S H (put S p m) (upd H p o) :=
  ⟨fun a u ha _ => by rw [upd_ne (ne_of_none ha h)]; exact ha, fun a ha => by
    by_cases e : a = p
    · subst e; exact .inr h
    · rw [put_ne e] at ha; exact .inl ha⟩
theorem RepS.newL {K : PySem.W.Frag} {S : Sto} {H : Hp} {p : Addr} {vs : List V} {ps : List Pv} (rs : RepS K H S) (h : H p = none) (rv : RepVs K H S ps vs) : RepS K (upd H p (.lst vs)) (put S p (.lst ps)) := fun a m ha => by
  have e := Ext.newS (S := S) (o := .lst vs) (m := .lst ps) h
  by_cases z : a = p
  · subst z
    rw [put_same] at ha; cases ha
    exact ⟨vs, upd_same, RepVs.ext rs e _ _ rv⟩
  · rw [put_ne z] at ha
    have q := rs a m ha
    cases m with
    | lst xs => obtain ⟨us, e1, r⟩ := q; exact ⟨us, by rw [upd_ne z]; exact e1, RepVs.ext rs e _ _ r⟩
    | dct ks xs => obtain ⟨us, e1, r, r'⟩ := q; exact ⟨us, by rw [upd_ne z]; exact e1, RepVs.ext rs e _ _ r, RepVs.ext rs e _ _ r'⟩
    | tab n => exact tab_ext rs e q (by rw [upd_ne z])
    | exc C => obtain ⟨oe, e1, r⟩ := q; exact ⟨oe, by rw [upd_ne z]; exact e1, r⟩
theorem pv_lstT {es : List Expr} {fs : PFs} (h : PVs X S0 H0 es fs) : PV X S0 H0 (.List es pos) (fN oLstT fs) := by
  refine ⟨fN_mono (fun _ _ _ _ h q => ⟨q.1, fun a ha => h _ _ (q.2 a ha)⟩) h, PE.imp (pe_lst h.pa) fun σ H Q ⟨ρ, S, re, rs, ex, q⟩ => ?_⟩
  refine ⟨ρ, S, re, rs, ex, h.mono _ _ _ _ (fun ps S1 q vs H1 rv rs1 ex1 => ⟨by rw [rv.len]; exact q.1, fun p np => ?_⟩) q⟩
  exact q.2 p (rs1.fr np) (.ref p) _ rfl (rs1.newL np rv) (ex1.trans (Ext.newS np))

/-! ### tests -/
def fBV (f : PF) : PFB := fun ρ S Q => f ρ S fun p S1 => match p with | .bl b => Q b S1 | _ => False
theorem fBV_mono {e : Expr} {f : PF} (h : PV X S0 H0 e f) : ∀ ρ S Q Q', (∀ p S', Q p S' → Q' p S') → fBV f ρ S Q → fBV f ρ S Q' := fun ρ S Q Q' i q => h.mono _ _ _ _ (fun p S1 q => by
  cases p <;> first | exact i _ _ q | exact q) q
theorem liftBV {e : Expr} {f : PF} (h : PV X S0 H0 e f) {σ : L2.St} {H : Hp} {Q : Bool → Hp → Prop} (q : liftB X.K S0 H0 (fBV f) σ H Q) : tB (lift X.K S0 H0 f) σ H Q := by
  obtain ⟨ρ, S, re, rs, ex, q⟩ := q
  refine ⟨ρ, S, re, rs, ex, h.mono _ _ _ _ (fun p S1 q v H1 rv rs1 ex1 => ?_) q⟩
  cases p with
  | bl b => exact ⟨b, rv, q H1 rs1 ex1⟩
  | _ => exact q.elim
/-- an expression whose value is a truth, as a test (a call, a name) -/
theorem pb_val {e : Expr} {f : PF} (h : PV X S0 H0 e f) (he : ∀ whole, isTrue e X.env whole = (do let v ← whole; standAt e.pos; holding [v] (truthy v)) := by intro _; rfl) : PB X S0 H0 e (fBV f) :=
  ⟨fBV_mono h, PT.imp (pt_val h.pe he) fun _ _ _ q => liftBV h q⟩
theorem pb_cmp {op : CmpOp} {r : R2} {o : O2} (ho : OpR X (compareOp op) r) (s : Sim2 X.K r o) (ha : PV X S0 H0 a fa) (hb : PV X S0 H0 b fb) (hm : behindInMarks op b = false) : PB X S0 H0 (.Compare a [op] [b] pos) (fBV (f2 o fa fb)) := by
  have h := pv_cmp (pos := pos) ho s ha hb hm
  refine ⟨fBV_mono h, PT.imp (pt_cmpR ho ha.pe hb.pe hm) fun σ H Q q => ?_⟩
  obtain ⟨ρ, S, re, rs, ex, q⟩ := q
  refine ⟨ρ, S, re, rs, ex, ha.mono _ _ _ _ (fun p S1 q v H1 rv rs1 ex1 => ?_) q⟩
  refine ⟨ρ, S1, re.ext rs ex1, rs1, ex.trans ex1, hb.mono _ _ _ _ (fun p' S2 q u H2 ru rs2 ex2 => ?_) q⟩
  refine s.run p p' S2 _ v u H2 _ (RepV.ext rs1 ex2 p v rv) ru rs2 q fun p' S' z H' q rz rs' ex' => ?_
  cases p' with
  | bl c => exact ⟨c, rz, q H' rs' ((ex1.trans ex2).trans ex')⟩
  | _ => exact q.elim
def fNot (f : PFB) : PFB := fun ρ S Q => f ρ S fun b S1 => Q (!b) S1
def fAnd (f g : PFB) : PFB := fun ρ S Q => f ρ S fun b S1 => cnd b (g ρ S1 Q) (Q false S1)
def fOr (f g : PFB) : PFB := fun ρ S Q => f ρ S fun b S1 => cnd b (Q true S1) (g ρ S1 Q)
theorem pb_not {e : Expr} {f : PFB} (h : PB X S0 H0 e f) : PB X S0 H0 (.UnaryOp .Not e pos) (fNot f) :=
  ⟨fun ρ S Q Q' i q => h.mono _ _ _ _ (fun _ _ q => i _ _ q) q, PT.imp (pt_not h.pt) fun _ _ _ q => q⟩
theorem and_mono {f g : PFB} (hf : ∀ ρ S Q Q', (∀ p S', Q p S' → Q' p S') → f ρ S Q → f ρ S Q') (hg : ∀ ρ S Q Q', (∀ p S', Q p S' → Q' p S') → g ρ S Q → g ρ S Q') :
    ∀ ρ S Q Q', (∀ p S', Q p S' → Q' p S') → fAnd f g ρ S Q → fAnd f g ρ S Q' := fun ρ S Q Q' i q => hf _ _ _ _ (fun b S1 q => by
  cases b with
  | true => exact hg _ _ _ _ i q
  | false => exact i _ _ q) q
theorem or_mono {f g : PFB} (hf : ∀ ρ S Q Q', (∀ p S', Q p S' → Q' p S') → f ρ S Q → f ρ S Q') (hg : ∀ ρ S Q Q', (∀ p S', Q p S' → Q' p S') → g ρ S Q → g ρ S Q') :
    ∀ ρ S Q Q', (∀ p S', Q p S' → Q' p S') → fOr f g ρ S Q → fOr f g ρ S Q' := fun ρ S Q Q' i q => hf _ _ _ _ (fun b S1 q => by
  cases b with
  | true => exact i _ _ q
  | false => exact hg _ _ _ _ i q) q
theorem pbw_and1 {e : Expr} {f : PFB} (h : PB X S0 H0 e f) : PBw X S0 H0 (.BoolOp .And [e] pos) f := ⟨h.mono, pw_and1 h.pt⟩
theorem pbw_or1 {e : Expr} {f : PFB} (h : PB X S0 H0 e f) : PBw X S0 H0 (.BoolOp .Or [e] pos) f := ⟨h.mono, pw_or1 h.pt⟩
theorem pbw_and {e e' : Expr} {es : List Expr} {f g : PFB} (h : PB X S0 H0 e f) (h' : PBw X S0 H0 (.BoolOp .And (e' :: es) pos) g) : PBw X S0 H0 (.BoolOp .And (e :: e' :: es) pos) (fAnd f g) := by
  refine ⟨and_mono h.mono h'.mono, PW.imp (pw_and h.pt h'.pw) fun σ H Q ⟨ρ, S, re, rs, ex, q⟩ => ?_⟩
  refine ⟨ρ, S, re, rs, ex, h.mono _ _ _ _ (fun b S1 q H1 rs1 ex1 => ?_) q⟩
  cases b with
  | true => exact ⟨ρ, S1, re.ext rs ex1, rs1, ex.trans ex1, h'.mono _ _ _ _ (fun b S2 q H2 rs2 ex2 => q H2 rs2 (ex1.trans ex2)) q⟩
  | false => exact q H1 rs1 ex1
theorem pbw_or {e e' : Expr} {es : List Expr} {f g : PFB} (h : PB X S0 H0 e f) (h' : PBw X S0 H0 (.BoolOp .Or (e' :: es) pos) g) : PBw X S0 H0 (.BoolOp .Or (e :: e' :: es) pos) (fOr f g) := by
  refine ⟨or_mono h.mono h'.mono, PW.imp (pw_or h.pt h'.pw) fun σ H Q ⟨ρ, S, re, rs, ex, q⟩ => ?_⟩
  refine ⟨ρ, S, re, rs, ex, h.mono _ _ _ _ (fun b S1 q H1 rs1 ex1 => ?_) q⟩
  cases b with
  | false => exact ⟨ρ, S1, re.ext rs ex1, rs1, ex.trans ex1, h'.mono _ _ _ _ (fun b S2 q H2 rs2 ex2 => q H2 rs2 (ex1.trans ex2)) q⟩
  | true => exact q H1 rs1 ex1
theorem PBw.pb {e : Expr} {f : PFB} (h : PBw X S0 H0 e f) : PB X S0 H0 e f := ⟨h.mono, h.pw.pt⟩
/-! .. as values -/
def fNotV (f : PF) : PF := fun ρ S Q => f ρ S fun p S1 => match p with | .bl b => Q (.bl (!b)) S1 | _ => False
def fAndV (f g : PF) : PF := fun ρ S Q => f ρ S fun p S1 => match p with | .bl b => cnd b (g ρ S1 Q) (Q (.bl false) S1) | _ => False
def fOrV (f g : PF) : PF := fun ρ S Q => f ρ S fun p S1 => match p with | .bl b => cnd b (Q (.bl true) S1) (g ρ S1 Q) | _ => False
theorem pv_one {op} (h : PV X S0 H0 a fa) : PV X S0 H0 (.BoolOp op [a] pos) fa := ⟨h.mono, pe_one h.pe⟩
theorem pv_not (h : PV X S0 H0 a fa) : PV X S0 H0 (.UnaryOp .Not a pos) (fNotV fa) := by
  refine ⟨fun ρ S Q Q' i q => h.mono _ _ _ _ (fun p S1 q => by cases p <;> first | exact i _ _ q | exact q) q, PE.imp (pe_not h.pe) fun σ H Q ⟨ρ, S, re, rs, ex, q⟩ => ?_⟩
  refine ⟨ρ, S, re, rs, ex, h.mono _ _ _ _ (fun p S1 q v H1 rv rs1 ex1 => ?_) q⟩
  cases p with
  | bl b => exact ⟨b, rv, q (.bl (!b)) H1 rfl rs1 ex1⟩
  | _ => exact q.elim
theorem pv_and {e' : Expr} {es : List Expr} (h : PV X S0 H0 a fa) (h' : PV X S0 H0 (.BoolOp .And (e' :: es) pos) fb) : PV X S0 H0 (.BoolOp .And (a :: e' :: es) pos) (fAndV fa fb) := by
  refine ⟨fun ρ S Q Q' i q => h.mono _ _ _ _ (fun p S1 q => ?_) q, PE.imp (pe_and h.pe h'.pe) fun σ H Q ⟨ρ, S, re, rs, ex, q⟩ => ?_⟩
  · cases p with
    | bl b => cases b with
      | true => exact h'.mono _ _ _ _ i q
      | false => exact i _ _ q
    | _ => exact q
  · refine ⟨ρ, S, re, rs, ex, h.mono _ _ _ _ (fun p S1 q v H1 rv rs1 ex1 => ?_) q⟩
    cases p with
    | bl b =>
      refine ⟨b, rv, ?_⟩
      cases b with
      | true => exact ⟨ρ, S1, re.ext rs ex1, rs1, ex.trans ex1, h'.mono _ _ _ _ (fun b S2 q v H2 rv rs2 ex2 => q v H2 rv rs2 (ex1.trans ex2)) q⟩
      | false => exact q (.bl false) H1 rfl rs1 ex1
    | _ => exact q.elim
theorem pv_or {e' : Expr} {es : List Expr} (h : PV X S0 H0 a fa) (h' : PV X S0 H0 (.BoolOp .Or (e' :: es) pos) fb) : PV X S0 H0 (.BoolOp .Or (a :: e' :: es) pos) (fOrV fa fb) := by
  refine ⟨fun ρ S Q Q' i q => h.mono _ _ _ _ (fun p S1 q => ?_) q, PE.imp (pe_or h.pe h'.pe) fun σ H Q ⟨ρ, S, re, rs, ex, q⟩ => ?_⟩
  · cases p with
    | bl b => cases b with
      | false => exact h'.mono _ _ _ _ i q
      | true => exact i _ _ q
    | _ => exact q
  · refine ⟨ρ, S, re, rs, ex, h.mono _ _ _ _ (fun p S1 q v H1 rv rs1 ex1 => ?_) q⟩
    cases p with
    | bl b =>
      refine ⟨b, rv, ?_⟩
      cases b with
      | false => exact ⟨ρ, S1, re.ext rs ex1, rs1, ex.trans ex1, h'.mono _ _ _ _ (fun b S2 q v H2 rv rs2 ex2 => q v H2 rv rs2 (ex1.trans ex2)) q⟩
      | true => exact q (.bl true) H1 rfl rs1 ex1
    | _ => exact q.elim
def fIf (c : PFB) (f g : PF) : PF := fun ρ S Q => c ρ S fun b S1 => cnd b (f ρ S1 Q) (g ρ S1 Q)
theorem pv_if {c : Expr} {fc : PFB} (hc : PB X S0 H0 c fc) (ha : PV X S0 H0 a fa) (hb : PV X S0 H0 b fb) : PV X S0 H0 (.IfExp c a b pos) (fIf fc fa fb) := by
  refine ⟨fun ρ S Q Q' i q => hc.mono _ _ _ _ (fun d S1 q => ?_) q, PE.imp (pe_ifExp hc.pt ha.pe hb.pe) fun σ H Q ⟨ρ, S, re, rs, ex, q⟩ => ?_⟩
  · cases d with
    | true => exact ha.mono _ _ _ _ i q
    | false => exact hb.mono _ _ _ _ i q
  · refine ⟨ρ, S, re, rs, ex, hc.mono _ _ _ _ (fun d S1 q H1 rs1 ex1 => ?_) q⟩
    cases d with
    | true => exact ⟨ρ, S1, re.ext rs ex1, rs1, ex.trans ex1, ha.mono _ _ _ _ (fun b S2 q v H2 rv rs2 ex2 => q v H2 rv rs2 (ex1.trans ex2)) q⟩
    | false => exact ⟨ρ, S1, re.ext rs ex1, rs1, ex.trans ex1, hb.mono _ _ _ _ (fun b S2 q v H2 rv rs2 ex2 => q v H2 rv rs2 (ex1.trans ex2)) q⟩
end
end PL

/-! The pure layer, part 2: operations. -/
namespace PL
open PySem PySem.Spec PyProof.Rows L2

/-- an object of the store, read as it stands -/
def top (S : Sto) : Pv → Pv
  | .ref a => match S a with
    | some (.lst xs) => .lst xs
    | some (.dct ks vs) => .dct ks vs
    | _ => .ref a
  | .non => .non | .bl b => .bl b | .int i => .int i | .str x => .str x | .tup xs => .tup xs | .lst xs => .lst xs | .dct k v => .dct k v | .ty n => .ty n | .scr xs => .scr xs
mutual
def toD : Pv → PyData
  | .non => .none | .bl b => .bool b | .int i => .int i | .str x => .str x | .tup xs => .tuple (toDs xs) | .lst xs => .list (toDs xs) | .scr xs => .list (toDs xs) | .dct _ _ => .dict [] | .ref _ => .none | .ty _ => .none
def toDs : List Pv → List PyData
  | [] => []
  | p :: ps => toD p :: toDs ps
end
mutual
/-- plain data: no object of the store, no dict -/
def isD : Pv → Bool
  | .non => true | .bl _ => true | .int _ => true | .str _ => true | .tup xs => isDs xs | .lst xs => isDs xs | .scr xs => isDs xs | .dct _ _ => false | .ref _ => false | .ty _ => false
def isDs : List Pv → Bool
  | [] => true
  | p :: ps => isD p && isDs ps
end
section
variable {K : PySem.W.Frag} {H : Hp} {S : Sto}
theorem sqL_of {a : Addr} {vs : List V} (h : SqL K (fun _ => none) a vs) : SqL K H a vs := by
  rcases h with (h | ⟨o, h⟩) | h
  · cases h
  · cases h
  · exact .inr h
theorem sqL_of2 {a : Addr} {vs : List V} (h : (∃ o, H a = some (.frz o (.lst vs))) ∨ SqL K (fun _ => none) a vs) : SqL K H a vs := h.elim (fun z => .inl (.inr z)) sqL_of
mutual
theorem dp_of : ∀ (p : Pv) (v : V), RepV K H S p v → isD p = true → Dp K H v (toD p)
  | .non, _, h, _ => by have e : _ = _ := h; rw [e]; exact .non
  | .bl _, _, h, _ => by have e : _ = _ := h; rw [e]; exact .bl _
  | .int _, _, h, _ => by have e : _ = _ := h; rw [e]; exact .int _
  | .str _, _, h, _ => by have e : _ = _ := h; rw [e]; exact .str _
  | .tup ps, _, ⟨a, vs, e1, h, r⟩, d => by rw [e1]; exact .tup h (dps_of ps vs r (by simpa [isD] using d))
  | .lst ps, _, ⟨a, vs, e1, h, hs, r⟩, d => by rw [e1]; exact .lst (.inl (.inl h)) (dps_of ps vs r (by simpa [isD] using d))
  | .scr ps, _, ⟨a, vs, e1, h, r⟩, d => by rw [e1]; exact .lst (sqL_of2 h) (dps_of ps vs r (by simpa [isD] using d))
  | .dct _ _, _, _, d => by simp [isD] at d
  | .ref _, _, _, d => by simp [isD] at d
  | .ty _, _, _, d => by simp [isD] at d
theorem dps_of : ∀ (ps : List Pv) (vs : List V), RepVs K H S ps vs → isDs ps = true → DpAll K H vs (toDs ps)
  | [], _, h, _ => by have e : _ = _ := h; rw [e]; exact .nil
  | p :: ps, _, ⟨v, r, e1, h1, h2⟩, d => by
    have d' : isD p = true ∧ isDs ps = true := by simpa [isDs] using d
    rw [e1]; exact .cons (dp_of p v h1 d'.1) (dps_of ps r h2 d'.2)
end
theorem dp_top (rs : RepS K H S) {p : Pv} {v : V} (h : RepV K H S p v) (d : isD (top S p) = true) : Dp K H v (toD (top S p)) := by
  cases p with
  | ref a =>
    simp only [top] at d ⊢
    cases q : S a with
    | none => rw [q] at d; simp [isD] at d
    | some m =>
      cases m with
      | lst xs =>
        rw [q] at d
        obtain ⟨vs, e, r⟩ := rs a _ q
        have e1 : v = _ := h
        rw [e1]
        exact .lst (.inl (.inl e)) (dps_of xs vs r (by simpa [isD] using d))
      | dct ks xs => rw [q] at d; simp [isD] at d
      | tab n => rw [q] at d; simp [isD] at d
      | exc C => rw [q] at d; simp [isD] at d
  | non => exact dp_of _ v h d
  | bl b => exact dp_of _ v h d
  | int i => exact dp_of _ v h d
  | str x => exact dp_of _ v h d
  | tup xs => exact dp_of _ v h d
  | lst xs => exact dp_of _ v h d
  | scr xs => exact dp_of _ v h d
  | dct ks xs => exact dp_of _ v h d
  | ty n => exact dp_of _ v h d
/-- a list to be read -/
def rdL (S : Sto) : Pv → Option (List Pv)
  | .lst xs => some xs
  | .scr xs => some xs
  | .ref a => match S a with
    | some (.lst xs) => some xs
    | _ => none
  | _ => none
/-- .. one that is not locked -/
def rdM (S : Sto) : Pv → Option (List Pv)
  | .lst xs => some xs
  | .ref a => match S a with
    | some (.lst xs) => some xs
    | _ => none
  | _ => none
@[simp] theorem rdM_lst (S : Sto) (xs : List Pv) : rdM S (.lst xs) = some xs := rfl
@[simp] theorem rdL_lst (S : Sto) (xs : List Pv) : rdL S (.lst xs) = some xs := rfl
@[simp] theorem rdL_scr (S : Sto) (xs : List Pv) : rdL S (.scr xs) = some xs := rfl
theorem rdM_rep (rs : RepS K H S) {p : Pv} {v : V} {xs : List Pv} (h : RepV K H S p v) (e : rdM S p = some xs) : ∃ a vs, v = .ref a ∧ H a = some (.lst vs) ∧ RepVs K H S xs vs := by
  cases p with
  | lst ys =>
    have e' : ys = xs := by simpa [rdM] using e
    subst e'
    obtain ⟨a, vs, e1, h, hs, r⟩ := h
    exact ⟨a, vs, e1, h, r⟩
  | ref a =>
    simp only [rdM] at e
    split at e
    · rename_i ys q
      have e' : ys = xs := by simpa using e
      subst e'
      obtain ⟨vs, e1, r⟩ := rs a _ q
      exact ⟨a, vs, h, e1, r⟩
    · cases e
  | _ => simp [rdM] at e
theorem rdL_rep (rs : RepS K H S) {p : Pv} {v : V} {xs : List Pv} (h : RepV K H S p v) (e : rdL S p = some xs) : ∃ a vs, v = .ref a ∧ SqL K H a vs ∧ RepVs K H S xs vs := by
  by_cases q : ∃ ys, p = .scr ys
  · obtain ⟨ys, rfl⟩ := q
    have e' : ys = xs := by simpa [rdL] using e
    subst e'
    obtain ⟨a, vs, e1, h, r⟩ := h
    exact ⟨a, vs, e1, sqL_of2 h, r⟩
  · obtain ⟨a, vs, e1, h1, r⟩ := rdM_rep (xs := xs) rs h (by
      cases p with
      | scr ys => exact absurd ⟨ys, rfl⟩ q
      | lst ys => exact e
      | ref a => exact e
      | _ => simp [rdL] at e)
    exact ⟨a, vs, e1, .inl (.inl h1), r⟩
theorem repV_int {v : V} {i : Int} (h : RepV K H S (.int i) v) : v = .int i := h
end

/-! ### ints -/
def oAdd : O2 := fun x y S Q => match x, y with
  | .int i, .int j => Q (.int (i + j)) S
  | .str x, .str y => x.length + y.length ≤ sizeLine ∧ Q (.str (x ++ y)) S
  | .tup xs, .tup ys => xs.length + ys.length ≤ sizeLine ∧ Q (.tup (xs ++ ys)) S
  | x, y => match rdM S x, rdM S y with
    | some xs, some ys => xs.length + ys.length ≤ sizeLine ∧ Q (.lst (xs ++ ys)) S
    | _, _ => False
/-- .. the new list is to be changed -/
def oAddT : O2 := fun x y S Q => match rdM S x, rdM S y with
  | some xs, some ys => xs.length + ys.length ≤ sizeLine ∧ ∀ a, S a = none → Q (.ref a) (put S a (.lst (xs ++ ys)))
  | _, _ => False
def oSub : O2 := fun x y S Q => match x, y with
  | .int i, .int j => Q (.int (i - j)) S
  | _, _ => False
def oMul : O2 := fun x y S Q => match x, y with
  | .int i, .int j => IntMulOk i j ∧ Q (.int (i * j)) S
  | .lst xs, .int k => (-(2 ^ 63) ≤ k ∧ k < 2 ^ 63 ∧ xs.length * k.toNat ≤ sizeLine) ∧ Q (.lst (List.replicate k.toNat xs).flatten) S
  | .str x, .int k => MulOk x k ∧ Q (.str (Txt.mul x k)) S
  | .tup xs, .int k => (xs ≠ [] ∧ 2 ≤ k ∧ k ≤ 1000 ∧ xs.length ≤ 1000) ∧ Q (.tup (List.replicate k.toNat xs).flatten) S
  | _, _ => False
def oDiv : O2 := fun x y S Q => match x, y with
  | .int i, .int j => (j ≠ 0 ∧ j.natAbs.log2 < 9000) ∧ Q (.int (i.fdiv j)) S
  | _, _ => False
def oMod : O2 := fun x y S Q => match x, y with
  | .int i, .int j => j ≠ 0 ∧ Q (.int (i.fmod j)) S
  | _, _ => False
def oPow : O2 := fun x y S Q => match x, y with
  | .int i, .int j => CPow i j ∧ Q (.int (i ^ j.toNat)) S
  | _, _ => False
def oShl : O2 := fun x y S Q => match x, y with
  | .int i, .int j => CShl i j ∧ Q (.int (i * 2 ^ j.toNat)) S
  | _, _ => False
def oShr : O2 := fun x y S Q => match x, y with
  | .int i, .int j => 0 ≤ j ∧ Q (.int (i / 2 ^ j.toNat)) S
  | _, _ => False
def oBand : O2 := fun x y S Q => match x, y with
  | .int i, .int j => Q (.int (Builtin.bitAnd i j)) S
  | _, _ => False
def oNeg : O1 := fun x S Q => match x with
  | .int i => Q (.int (-i)) S
  | _ => False
section
variable {X : Cx} {S0 : Sto} {H0 : Hp} {a b : Expr} {fa fb : PF} {pos : Pos}
theorem Sim2.ints {K : PySem.W.Frag} {r : R2} {o : O2} {C : Int → Int → Prop} {g : Int → Int → Pv} {gv : Int → Int → V} (hg : ∀ i j H S, RepV K H S (g i j) (gv i j))
    (ho : ∀ x y S Q, o x y S Q ↔ ∃ i j, x = .int i ∧ y = .int j ∧ C i j ∧ Q (g i j) S) (hr : ∀ x y H Q, r x y H Q ↔ ∃ i j, x = .int i ∧ y = .int j ∧ C i j ∧ Q (gv i j) H) : Sim2 K r o := by
  refine ⟨fun x y S Q Q' h q => ?_, fun x y S Qp v u H Q rx ry rs h k => ?_⟩
  · obtain ⟨i, j, e1, e2, c, q⟩ := (ho _ _ _ _).mp q
    exact (ho _ _ _ _).mpr ⟨i, j, e1, e2, c, h _ _ q⟩
  · obtain ⟨i, j, rfl, rfl, c, q⟩ := (ho _ _ _ _).mp h
    exact (hr _ _ _ _).mpr ⟨i, j, rx, ry, c, k _ S _ H q (hg i j H S) rs (Ext.refl S H)⟩
theorem int2_iff {P : Int → Int → Prop} {x y : Pv} : (match x, y with | .int i, .int j => P i j | _, _ => False) ↔ ∃ i j, x = .int i ∧ y = .int j ∧ P i j := by
  cases x <;> cases y <;> simp
theorem pv_sub (ha : PV X S0 H0 a fa) (hb : PV X S0 H0 b fb) : PV X S0 H0 (.BinOp a .Sub b pos) (f2 oSub fa fb) :=
  pv_op op_sub (Sim2.ints (C := fun _ _ => True) (g := fun i j => .int (i - j)) (gv := fun i j => .int (i - j)) (fun _ _ _ _ => rfl) (fun x y S Q => by simp only [oSub, int2_iff, true_and]) fun x y H Q => by simp [rI0]) ha hb
theorem op_divZ : OpR X (binaryOp .FloorDiv) (rI (fun _ j => j ≠ 0 ∧ j.natAbs.log2 < 9000) fun i j => .int (i.fdiv j)) := opI fun _ _ _ _ _ _ _ hc q => floordiv_int hc.1 q (.inl (PyProof.noPylong_of_log2 hc.2))
theorem op_mulZ : OpR X (binaryOp .Mult) (rI IntMulOk fun i j => .int (i * j)) := opI fun _ _ _ _ _ _ _ hc q => mul_int q hc
theorem pv_div (ha : PV X S0 H0 a fa) (hb : PV X S0 H0 b fb) : PV X S0 H0 (.BinOp a .FloorDiv b pos) (f2 oDiv fa fb) :=
  pv_op op_divZ (Sim2.ints (C := fun _ j => j ≠ 0 ∧ j.natAbs.log2 < 9000) (g := fun i j => .int (i.fdiv j)) (gv := fun i j => .int (i.fdiv j)) (fun _ _ _ _ => rfl) (fun x y S Q => by simp only [oDiv, int2_iff]) fun x y H Q => by simp [rI]) ha hb
theorem pv_mod (ha : PV X S0 H0 a fa) (hb : PV X S0 H0 b fb) : PV X S0 H0 (.BinOp a .Mod b pos) (f2 oMod fa fb) :=
  pv_op op_modN (Sim2.ints (C := fun _ j => j ≠ 0) (g := fun i j => .int (i.fmod j)) (gv := fun i j => .int (i.fmod j)) (fun _ _ _ _ => rfl) (fun x y S Q => by simp only [oMod, int2_iff]) fun x y H Q => by simp [rI]) ha hb
theorem pv_pow (ha : PV X S0 H0 a fa) (hb : PV X S0 H0 b fb) : PV X S0 H0 (.BinOp a .Pow b pos) (f2 oPow fa fb) :=
  pv_op op_pow (Sim2.ints (C := CPow) (g := fun i j => .int (i ^ j.toNat)) (gv := fun i j => .int (i ^ j.toNat)) (fun _ _ _ _ => rfl) (fun x y S Q => by simp only [oPow, int2_iff]) fun x y H Q => by simp [rI]) ha hb
theorem pv_shl (ha : PV X S0 H0 a fa) (hb : PV X S0 H0 b fb) : PV X S0 H0 (.BinOp a .LShift b pos) (f2 oShl fa fb) :=
  pv_op op_shlW (Sim2.ints (C := CShl) (g := fun i j => .int (i * 2 ^ j.toNat)) (gv := fun i j => .int (i * 2 ^ j.toNat)) (fun _ _ _ _ => rfl) (fun x y S Q => by simp only [oShl, int2_iff]) fun x y H Q => by simp [rI]) ha hb
theorem pv_shr (ha : PV X S0 H0 a fa) (hb : PV X S0 H0 b fb) : PV X S0 H0 (.BinOp a .RShift b pos) (f2 oShr fa fb) :=
  pv_op op_shr (Sim2.ints (C := fun _ j => 0 ≤ j) (g := fun i j => .int (i / 2 ^ j.toNat)) (gv := fun i j => .int (i / 2 ^ j.toNat)) (fun _ _ _ _ => rfl) (fun x y S Q => by simp only [oShr, int2_iff]) fun x y H Q => by simp [rI]) ha hb
theorem pv_band (ha : PV X S0 H0 a fa) (hb : PV X S0 H0 b fb) : PV X S0 H0 (.BinOp a .BitAnd b pos) (f2 oBand fa fb) :=
  pv_op op_and (Sim2.ints (C := fun _ _ => True) (g := fun i j => .int (Builtin.bitAnd i j)) (gv := fun i j => .int (Builtin.bitAnd i j)) (fun _ _ _ _ => rfl) (fun x y S Q => by simp only [oBand, int2_iff, true_and]) fun x y H Q => by simp [rI0]) ha hb
theorem pv_neg (ha : PV X S0 H0 a fa) : PV X S0 H0 (.UnaryOp .USub a pos) (f1 oNeg fa) := by
  refine pv_un un_neg ⟨fun x S Q Q' h q => ?_, fun x S Qp v H Q rx rs h k => ?_⟩ ha
  · cases x <;> first | exact h _ _ q | exact q
  · cases x with
    | int i => exact ⟨i, rx, k _ S _ H h rfl rs (Ext.refl S H)⟩
    | _ => exact h.elim
theorem sim_addL {x y : Pv} {xs ys : List Pv} {S : Sto} {v u : V} {H : Hp} {Q : VK} (rs : RepS X.K H S) (rx : RepV X.K H S x v) (ry : RepV X.K H S y u) (e1 : rdM S x = some xs) (e2 : rdM S y = some ys) (hz : xs.length + ys.length ≤ sizeLine)
    (k : ∀ p vs, H p = none → RepVs X.K H S (xs ++ ys) vs → Q (.ref p) (upd H p (.lst vs))) : rCat v u H Q := by
  obtain ⟨l, vs, rfl, hl, r1⟩ := rdM_rep rs rx e1
  obtain ⟨b, us, rfl, hb, r2⟩ := rdM_rep rs ry e2
  exact ⟨l, b, vs, us, rfl, rfl, hl, hb, by rw [r1.len, r2.len]; exact hz, fun p np => k p _ np (r1.app r2)⟩
theorem newL_k {K : PySem.W.Frag} {H : Hp} {S : Sto} {xs : List Pv} {vs : List V} {p : Addr} (rs : RepS K H S) (np : H p = none) (r : RepVs K H S xs vs) : RepV K (upd H p (.lst vs)) S (.lst xs) (.ref p) ∧ RepS K (upd H p (.lst vs)) S ∧ Ext S H S (upd H p (.lst vs)) :=
  ⟨⟨p, vs, rfl, upd_same, rs.fr np, RepVs.ext rs (Ext.newT (K := K) np) _ _ r⟩, rs.newT np, Ext.newT (K := K) np⟩
theorem newT_k {K : PySem.W.Frag} {H : Hp} {S : Sto} {xs : List Pv} {vs : List V} {p : Addr} (rs : RepS K H S) (np : H p = none) (r : RepVs K H S xs vs) : RepV K (upd H p (.tup vs)) S (.tup xs) (.ref p) ∧ RepS K (upd H p (.tup vs)) S ∧ Ext S H S (upd H p (.tup vs)) :=
  ⟨⟨p, vs, rfl, .inl (.inl upd_same), RepVs.ext rs (Ext.newT (K := K) np) _ _ r⟩, rs.newT np, Ext.newT (K := K) np⟩
theorem sim_catT {xs ys : List Pv} {S : Sto} {v u : V} {H : Hp} {Q : VK} (rs : RepS X.K H S) (rx : RepV X.K H S (.tup xs) v) (ry : RepV X.K H S (.tup ys) u) (hz : xs.length + ys.length ≤ sizeLine)
    (k : ∀ z H', RepV X.K H' S (.tup (xs ++ ys)) z → RepS X.K H' S → Ext S H S H' → Q z H') : rCatA X.K v u H Q := by
  have rx' := rx
  have ry' := ry
  obtain ⟨l, vs, rfl, hl, r1⟩ := rx
  obtain ⟨b, us, rfl, hb, r2⟩ := ry
  refine ⟨l, b, vs, us, rfl, rfl, hl, hb, by rw [r1.len, r2.len]; exact hz, fun e => ?_, fun _ e => ?_, fun _ _ p np => ?_⟩
  · have e0 : xs = [] := List.length_eq_zero_iff.mp (by rw [← r1.len, e]; rfl)
    subst e0
    exact k _ H ry' rs (Ext.refl S H)
  · have e0 : ys = [] := List.length_eq_zero_iff.mp (by rw [← r2.len, e]; rfl)
    subst e0
    rw [List.append_nil] at k
    exact k _ H rx' rs (Ext.refl S H)
  · obtain ⟨a1, a2, a3⟩ := newT_k rs np (r1.app r2)
    exact k _ _ a1 a2 a3
theorem pv_add (ha : PV X S0 H0 a fa) (hb : PV X S0 H0 b fb) : PV X S0 H0 (.BinOp a .Add b pos) (f2 oAdd fa fb) := by
  refine pv_op (OpR.or op_add (OpR.or op_add_str (OpR.or op_catA op_cat))) ⟨fun x y S Q Q' h q => ?_, fun x y S Qp v u H Q rx ry rs h k => ?_⟩ ha hb
  · unfold oAdd at q ⊢
    split at q
    · exact h _ _ q
    · exact ⟨q.1, h _ _ q.2⟩
    · exact ⟨q.1, h _ _ q.2⟩
    · split at q
      · exact ⟨q.1, h _ _ q.2⟩
      · exact q.elim
  · unfold oAdd at h
    split at h
    · exact .inl ⟨_, _, rx, ry, k _ S _ H h rfl rs (Ext.refl S H)⟩
    · exact .inr (.inl ⟨_, _, rx, ry, h.1, k _ S _ H h.2 rfl rs (Ext.refl S H)⟩)
    · exact .inr (.inr (.inl (sim_catT rs rx ry h.1 fun z H' a1 a2 a3 => k _ S z H' h.2 a1 a2 a3)))
    · split at h
      · rename_i xs ys e1 e2
        exact .inr (.inr (.inr (sim_addL rs rx ry e1 e2 h.1 fun p vs np r => by
          obtain ⟨a1, a2, a3⟩ := newL_k rs np r
          exact k _ S _ _ h.2 a1 a2 a3)))
      · exact h.elim
theorem pv_addT (ha : PV X S0 H0 a fa) (hb : PV X S0 H0 b fb) : PV X S0 H0 (.BinOp a .Add b pos) (f2 oAddT fa fb) := by
  refine pv_op op_cat ⟨fun x y S Q Q' h q => ?_, fun x y S Qp v u H Q rx ry rs h k => ?_⟩ ha hb
  · unfold oAddT at q ⊢
    split at q
    · exact ⟨q.1, fun a ha => h _ _ (q.2 a ha)⟩
    · exact q.elim
  · unfold oAddT at h
    split at h
    · rename_i xs ys e1 e2
      exact sim_addL rs rx ry e1 e2 h.1 fun p vs np r => k _ _ _ _ (h.2 p (rs.fr np)) rfl (rs.newL np r) (Ext.newS np)
    · exact h.elim
theorem op_mul_str : OpR X (binaryOp .Mult) (fun x y H Q => ∃ i k, x = .str i ∧ y = .int k ∧ MulOk i k ∧ Q (.str (Txt.mul i k)) H) := by
  intro pins s σ H x y v u Q I rx ry h
  obtain ⟨i, k, rfl, rfl, hz, q⟩ := h
  obtain ⟨t, rfl⟩ := rx
  obtain ⟨t', rfl⟩ := ry
  exact SB.mul hz fun t' tk => ⟨.str (Txt.mul i k), H, I.tok _, ⟨_, rfl⟩, q⟩
theorem rep_flat {K : PySem.W.Frag} {H : Hp} {S : Sto} {xs : List Pv} {vs : List V} (r : RepVs K H S xs vs) : ∀ n, RepVs K H S (List.replicate n xs).flatten (List.replicate n vs).flatten
  | 0 => rfl
  | n + 1 => by rw [List.replicate_succ, List.replicate_succ, List.flatten_cons, List.flatten_cons]; exact r.app (rep_flat r n)
theorem pv_mul (ha : PV X S0 H0 a fa) (hb : PV X S0 H0 b fb) : PV X S0 H0 (.BinOp a .Mult b pos) (f2 oMul fa fb) := by
  refine pv_op (OpR.or op_mulZ (OpR.or op_rep (OpR.or op_mul_str op_repT))) ⟨fun x y S Q Q' h q => ?_, fun x y S Qp v u H Q rx ry rs h k => ?_⟩ ha hb
  · unfold oMul at q ⊢
    split at q
    · exact ⟨q.1, h _ _ q.2⟩
    · exact ⟨q.1, h _ _ q.2⟩
    · exact ⟨q.1, h _ _ q.2⟩
    · exact ⟨q.1, h _ _ q.2⟩
    · exact q.elim
  · unfold oMul at h
    split at h
    · exact .inl ⟨_, _, rx, ry, h.1, k _ S _ H h.2 rfl rs (Ext.refl S H)⟩
    · obtain ⟨l, vs, rfl, hl, hs, r⟩ := rx
      refine .inr (.inl ⟨l, _, vs, rfl, ry, hl, h.1.1, h.1.2.1, by rw [r.len]; exact h.1.2.2, fun p np => ?_⟩)
      obtain ⟨a1, a2, a3⟩ := newL_k rs np (rep_flat r _)
      exact k _ S _ _ h.2 a1 a2 a3
    · exact .inr (.inr (.inl ⟨_, _, rx, ry, h.1, k _ S _ H h.2 rfl rs (Ext.refl S H)⟩))
    · obtain ⟨l, vs, rfl, hl, r⟩ := rx
      refine .inr (.inr (.inr ⟨l, _, vs, rfl, ry, hl, ?_, h.1.2.1, h.1.2.2.1, by rw [r.len]; exact h.1.2.2.2, fun p np => ?_⟩))
      · intro e
        have := r.len
        rw [e] at this
        exact h.1.1 (List.length_eq_zero_iff.mp this.symm)
      · obtain ⟨a1, a2, a3⟩ := newT_k rs np (rep_flat r _)
        exact k _ S _ _ h.2 a1 a2 a3
    · exact h.elim
end

/-! ### comparisons -/
def oCmpI (c : Int → Int → Bool) (cs : Str → Str → Bool) (cd : PyData → PyData → Bool) : O2 := fun x y S Q => match x, y with
  | .int i, .int j => Q (.bl (c i j)) S
  | .str i, .str j => Q (.bl (cs i j)) S
  | .tup xs, .tup ys => ((isDs xs = true ∧ isDs ys = true) ∧ PySem.W.alike (toD (.tup xs)) (toD (.tup ys)) = true ∧ (toD (.tup xs)).depth ≤ 60) ∧ Q (.bl (cd (toD (.tup xs)) (toD (.tup ys)))) S
  | _, _ => False
def strLt (i j : Str) : Bool := decide (i.cps.toList < j.cps.toList)
abbrev oLt : O2 := oCmpI (fun i j => decide (i < j)) strLt (fun x y => PySem.W.dataLt x y)
abbrev oLe : O2 := oCmpI (fun i j => decide (i ≤ j)) (fun i j => !strLt j i) (fun x y => !PySem.W.dataLt y x)
abbrev oGt : O2 := oCmpI (fun i j => decide (j < i)) (fun i j => strLt j i) (fun x y => PySem.W.dataLt y x)
abbrev oGe : O2 := oCmpI (fun i j => decide (j ≤ i)) (fun i j => !strLt i j) (fun x y => !PySem.W.dataLt x y)
def rCmpD (K : PySem.W.Frag) (cd : PyData → PyData → Bool) : R2 := fun x y H Q => ∃ d e, Dp K H x d ∧ Dp K H y e ∧ PySem.W.alike d e = true ∧ d ≠ .none ∧ d.depth ≤ 60 ∧ Q (.bl (cd d e)) H
section
variable {X : Cx} {S0 : Sto} {H0 : Hp} {a b : Expr} {fa fb : PF} {pos : Pos}
theorem op_cmpD {op : CmpOp} {cd : PyData → PyData → Bool} (hu : X.A.units + 64 < cLine) (hop : ∀ (A : Around) (s : Shared) (v u : Value) (d e : PyData) (as bs : List Addr), Reads s.heap v d as → Reads s.heap u e bs → PySem.W.alike d e = true → d ≠ .none → A.units + min d.depth e.depth < cLine → PySem.SeqAt.RcOp op A s v u (cd d e))
    (hco : ∀ v u, compareOp op v u = richCompare op v u) : OpR X (compareOp op) (rCmpD X.K cd) := by
  intro pins s σ H x y v u Q I rx ry h
  obtain ⟨d, e, hd, he, al, hn, hdp, q⟩ := h
  obtain ⟨as, r1⟩ := Dp.reads I d x v hd rx
  obtain ⟨bs, r2⟩ := Dp.reads I e y u he ry
  rw [hco]
  have hm : min d.depth e.depth ≤ d.depth := Nat.min_le_left _ _
  exact hop X.A s v u d e as bs r1 r2 al hn (by omega) X.prog X.w X.xe _ ⟨.bl _, H, I, rfl, q⟩
theorem sim_cmp {K : PySem.W.Frag} {c : Int → Int → Bool} {cs : Str → Str → Bool} {cd : PyData → PyData → Bool} : Sim2 K (fun x y H Q => (rI0 (fun i j => .bl (c i j)) x y H Q ∨ ∃ i j, x = .str i ∧ y = .str j ∧ Q (.bl (cs i j)) H) ∨ rCmpD K cd x y H Q) (oCmpI c cs cd) := by
  refine ⟨fun x y S Q Q' h q => ?_, fun x y S Qp v u H Q rx ry rs h k => ?_⟩
  · unfold oCmpI at q ⊢
    split at q
    · exact h _ _ q
    · exact h _ _ q
    · exact ⟨q.1, h _ _ q.2⟩
    · exact q.elim
  · unfold oCmpI at h
    split at h
    · exact .inl (.inl ⟨_, _, rx, ry, k _ S _ H h rfl rs (Ext.refl S H)⟩)
    · exact .inl (.inr ⟨_, _, rx, ry, k _ S _ H h rfl rs (Ext.refl S H)⟩)
    · obtain ⟨⟨⟨h1, h2⟩, h3, h4⟩, h5⟩ := h
      exact .inr ⟨_, _, dp_of _ _ rx h1, dp_of _ _ ry h2, h3, (fun z => by simp [toD] at z), h4, k _ S _ H h5 rfl rs (Ext.refl S H)⟩
    · exact h.elim
theorem opLt (hu : X.A.units + 64 < cLine) : OpR X (compareOp .Lt) (fun x y H Q => (rI0 (fun i j => .bl (decide (i < j))) x y H Q ∨ ∃ i j, x = .str i ∧ y = .str j ∧ Q (.bl (strLt i j)) H) ∨ rCmpD X.K (fun x y => PySem.W.dataLt x y) x y H Q) := OpR.or (OpR.or op_lt op_lt_str) (op_cmpD hu (fun A s v u d e as bs r1 r2 al hn hd => PySem.W.rcLt_alike d e A s v u as bs r1 r2 al hn hd) fun _ _ => rfl)
theorem opLe (hu : X.A.units + 64 < cLine) : OpR X (compareOp .LtE) (fun x y H Q => (rI0 (fun i j => .bl (decide (i ≤ j))) x y H Q ∨ ∃ i j, x = .str i ∧ y = .str j ∧ Q (.bl (!strLt j i)) H) ∨ rCmpD X.K (fun x y => !PySem.W.dataLt y x) x y H Q) := OpR.or (OpR.or op_le op_le_str) (op_cmpD hu (fun A s v u d e as bs r1 r2 al hn hd => PySem.W.rcLe_alike d e A s v u as bs r1 r2 al hn hd) fun _ _ => rfl)
theorem opGt (hu : X.A.units + 64 < cLine) : OpR X (compareOp .Gt) (fun x y H Q => (rI0 (fun i j => .bl (decide (j < i))) x y H Q ∨ ∃ i j, x = .str i ∧ y = .str j ∧ Q (.bl (strLt j i)) H) ∨ rCmpD X.K (fun x y => PySem.W.dataLt y x) x y H Q) := OpR.or (OpR.or op_gt op_gt_str) (op_cmpD hu (fun A s v u d e as bs r1 r2 al hn hd => PySem.W.rcGt_alike d e A s v u as bs r1 r2 al hn hd) fun _ _ => rfl)
theorem opGe (hu : X.A.units + 64 < cLine) : OpR X (compareOp .GtE) (fun x y H Q => (rI0 (fun i j => .bl (decide (j ≤ i))) x y H Q ∨ ∃ i j, x = .str i ∧ y = .str j ∧ Q (.bl (!strLt i j)) H) ∨ rCmpD X.K (fun x y => !PySem.W.dataLt x y) x y H Q) := OpR.or (OpR.or op_ge op_ge_str) (op_cmpD hu (fun A s v u d e as bs r1 r2 al hn hd => PySem.W.rcGe_alike d e A s v u as bs r1 r2 al hn hd) fun _ _ => rfl)
/-- == of plain data -/
def scalP : Pv → Pv → Bool
  | .non, .non => true | .non, .int _ => true | .int _, .non => true | .non, .bl _ => true | .bl _, .non => true | .non, .str _ => true | .str _, .non => true
  | .int _, .int _ => true | .bl _, .bl _ => true | .str _, .str _ => true | .int _, .str _ => true | .str _, .int _ => true | .bl _, .str _ => true | .str _, .bl _ => true
  | _, _ => false
def eqS : Pv → Pv → Bool
  | .non, .non => true
  | .int i, .int j => decide (i = j)
  | .bl i, .bl j => decide (i = j)
  | .str i, .str j => decide (i = j)
  | _, _ => false
def okD (p : Pv) : Bool := isD p && SeqAt.shaped (toD p)
def oEq : O2 := fun x y S Q => if scalP x y = true then Q (.bl (eqS x y)) S else (okD (top S x) = true ∧ okD (top S y) = true) ∧ Q (.bl (PyData.eqv (toD (top S x)) (toD (top S y)))) S
def oNe : O2 := fun x y S Q => if scalP x y = true then Q (.bl (!eqS x y)) S else (okD (top S x) = true ∧ okD (top S y) = true) ∧ Q (.bl (!PyData.eqv (toD (top S x)) (toD (top S y)))) S
theorem scal_rep {K : PySem.W.Frag} {H : Hp} {S : Sto} {x y : Pv} {v u : V} (h : scalP x y = true) (rx : RepV K H S x v) (ry : RepV K H S y u) : scal v u = true ∧ decide (v = u) = eqS x y := by
  cases x <;> cases y <;> first
    | (simp [scalP] at h; done)
    | (have e1 : v = _ := rx
       have e2 : u = _ := ry
       subst e1 e2
       constructor
       · rfl
       · simp [eqS])
theorem sim_eq : Sim2 X.K (fun x y H Q => rEq x y H Q ∨ rEqD X.K x y H Q) oEq := by
  refine ⟨fun x y S Q Q' h q => ?_, fun x y S Qp v u H Q rx ry rs h k => ?_⟩
  · unfold oEq at q ⊢
    split
    · rename_i e; rw [if_pos e] at q; exact h _ _ q
    · rename_i e; rw [if_neg e] at q; exact ⟨q.1, h _ _ q.2⟩
  · unfold oEq at h
    split at h
    · rename_i e
      obtain ⟨h1, h2⟩ := scal_rep e rx ry
      exact .inl ⟨h1, by rw [h2]; exact k _ S _ H h rfl rs (Ext.refl S H)⟩
    · obtain ⟨⟨h1, h2⟩, h3⟩ := h
      unfold okD at h1 h2
      rw [Bool.and_eq_true] at h1 h2
      exact .inr ⟨_, _, dp_top rs rx h1.1, dp_top rs ry h2.1, h1.2, h2.2, k _ S _ H h3 rfl rs (Ext.refl S H)⟩
theorem sim_ne : Sim2 X.K (fun x y H Q => rNe x y H Q ∨ rNeD X.K x y H Q) oNe := by
  refine ⟨fun x y S Q Q' h q => ?_, fun x y S Qp v u H Q rx ry rs h k => ?_⟩
  · unfold oNe at q ⊢
    split
    · rename_i e; rw [if_pos e] at q; exact h _ _ q
    · rename_i e; rw [if_neg e] at q; exact ⟨q.1, h _ _ q.2⟩
  · unfold oNe at h
    split at h
    · rename_i e
      obtain ⟨h1, h2⟩ := scal_rep e rx ry
      exact .inl ⟨h1, by rw [h2]; exact k _ S _ H h rfl rs (Ext.refl S H)⟩
    · obtain ⟨⟨h1, h2⟩, h3⟩ := h
      unfold okD at h1 h2
      rw [Bool.and_eq_true] at h1 h2
      exact .inr ⟨_, _, dp_top rs rx h1.1, dp_top rs ry h2.1, h1.2, h2.2, k _ S _ H h3 rfl rs (Ext.refl S H)⟩
theorem opEq (hu : X.A.units + 64 < cLine) : OpR X (compareOp .Eq) (fun x y H Q => rEq x y H Q ∨ rEqD X.K x y H Q) := OpR.or op_eq (op_eqD hu)
theorem opNe (hu : X.A.units + 64 < cLine) : OpR X (compareOp .NotEq) (fun x y H Q => rNe x y H Q ∨ rNeD X.K x y H Q) := OpR.or op_ne (op_neD hu)
/-- is None, is not None -/
def isNonP : Pv → Bool
  | .non => true
  | _ => false
def oIs : O2 := fun x y S Q => match y with
  | .non => Q (.bl (isNonP x)) S
  | _ => False
def oIsNot : O2 := fun x y S Q => match y with
  | .non => Q (.bl (!isNonP x)) S
  | _ => False
theorem isNon_rep {K : PySem.W.Frag} {H : Hp} {S : Sto} {x : Pv} {v : V} (rx : RepV K H S x v) : decide (v = V.non) = isNonP x := by
  cases x with
  | tup xs => obtain ⟨a, vs, rfl, _⟩ := rx; rfl
  | lst xs => obtain ⟨a, vs, rfl, _⟩ := rx; rfl
  | scr xs => obtain ⟨a, vs, rfl, _⟩ := rx; rfl
  | dct ks xs => obtain ⟨a, vs, rfl, _⟩ := rx; rfl
  | _ => have e : v = _ := rx; subst e; rfl
theorem sim_is {K : PySem.W.Frag} : Sim2 K (fun x y H Q => y = .non ∧ Q (.bl (decide (x = .non))) H) oIs := by
  refine ⟨fun x y S Q Q' h q => ?_, fun x y S Qp v u H Q rx ry rs h k => ?_⟩
  · cases y <;> first | exact h _ _ q | exact q.elim
  · cases y with
    | non => exact ⟨ry, by rw [isNon_rep rx]; exact k _ S _ H h rfl rs (Ext.refl S H)⟩
    | _ => exact h.elim
theorem sim_isNot {K : PySem.W.Frag} : Sim2 K (fun x y H Q => y = .non ∧ Q (.bl (!decide (x = .non))) H) oIsNot := by
  refine ⟨fun x y S Q Q' h q => ?_, fun x y S Qp v u H Q rx ry rs h k => ?_⟩
  · cases y <;> first | exact h _ _ q | exact q.elim
  · cases y with
    | non => exact ⟨ry, by rw [isNon_rep rx]; exact k _ S _ H h rfl rs (Ext.refl S H)⟩
    | _ => exact h.elim
/-- in: a text in a text, a plain thing in a list -/
def inTxt (x y : Str) : Bool := !(Builtin.Str.occurrences y x 0 y.length 1).isEmpty
def memD (x : Pv) (xs : List Pv) : Bool := (toDs xs).any fun z => PyData.eqv z (toD x)
def oIn (neg : Bool) : O2 := fun x y S Q => match x, y with
  | .str x, .str y => Q (.bl (if neg then !inTxt x y else inTxt x y)) S
  | x, y => match rdL S y with
    | some ys => (okD (top S x) = true ∧ okD (.lst ys) = true) ∧ Q (.bl (if neg then !memD (top S x) ys else memD (top S x) ys)) S
    | none => False
theorem dp_list {K : PySem.W.Frag} {H : Hp} {S : Sto} (rs : RepS K H S) {y : Pv} {u : V} {ys : List Pv} (ry : RepV K H S y u) (e : rdL S y = some ys) (d : isDs ys = true) : Dp K H u (.list (toDs ys)) := by
  obtain ⟨a, vs, rfl, h, r⟩ := rdL_rep rs ry e
  exact .lst h (dps_of ys vs r d)
theorem sim_in : Sim2 X.K (fun x y H Q => (∃ i j, x = .str i ∧ y = .str j ∧ Q (.bl (!(Builtin.Str.occurrences j i 0 j.length 1).isEmpty)) H) ∨ rInD X.K x y H Q) (oIn false) := by
  refine ⟨fun x y S Q Q' h q => ?_, fun x y S Qp v u H Q rx ry rs h k => ?_⟩
  · unfold oIn at q ⊢
    split at q
    · exact h _ _ q
    · split at q
      · exact ⟨q.1, h _ _ q.2⟩
      · exact q.elim
  · unfold oIn at h
    split at h
    · exact .inl ⟨_, _, rx, ry, k _ S _ H h rfl rs (Ext.refl S H)⟩
    · split at h
      · rename_i ys e
        obtain ⟨⟨h1, h2⟩, h3⟩ := h
        unfold okD at h1 h2
        rw [Bool.and_eq_true] at h1 h2
        exact .inr ⟨_, _, dp_top rs rx h1.1, dp_list rs ry e (by simpa [isD] using h2.1), h1.2, by simpa [toD] using h2.2, k _ S _ H h3 rfl rs (Ext.refl S H)⟩
      · exact h.elim
theorem sim_notIn : Sim2 X.K (fun x y H Q => (∃ i j, x = .str i ∧ y = .str j ∧ Q (.bl (!(!(Builtin.Str.occurrences j i 0 j.length 1).isEmpty))) H) ∨ rNotInD X.K x y H Q) (oIn true) := by
  refine ⟨fun x y S Q Q' h q => ?_, fun x y S Qp v u H Q rx ry rs h k => ?_⟩
  · unfold oIn at q ⊢
    split at q
    · exact h _ _ q
    · split at q
      · exact ⟨q.1, h _ _ q.2⟩
      · exact q.elim
  · unfold oIn at h
    split at h
    · exact .inl ⟨_, _, rx, ry, k _ S _ H h rfl rs (Ext.refl S H)⟩
    · split at h
      · rename_i ys e
        obtain ⟨⟨h1, h2⟩, h3⟩ := h
        unfold okD at h1 h2
        rw [Bool.and_eq_true] at h1 h2
        exact .inr ⟨_, _, dp_top rs rx h1.1, dp_list rs ry e (by simpa [isD] using h2.1), h1.2, by simpa [toD] using h2.2, k _ S _ H h3 rfl rs (Ext.refl S H)⟩
      · exact h.elim
theorem opIn (hu : X.A.units + 65 < cLine) : OpR X (compareOp .In) (fun x y H Q => (∃ i j, x = .str i ∧ y = .str j ∧ Q (.bl (!(Builtin.Str.occurrences j i 0 j.length 1).isEmpty)) H) ∨ rInD X.K x y H Q) := OpR.or op_in_str (op_inD hu)
theorem opNotIn (hu : X.A.units + 65 < cLine) : OpR X (compareOp .NotIn) (fun x y H Q => (∃ i j, x = .str i ∧ y = .str j ∧ Q (.bl (!(!(Builtin.Str.occurrences j i 0 j.length 1).isEmpty))) H) ∨ rNotInD X.K x y H Q) := OpR.or op_notin_str (op_notInD hu)
end
end PL

/-! The pure layer, part 3: subscripts, built-ins, statements, loops, comprehensions. -/
namespace PL
open PySem PySem.Spec PyProof.Rows L2
section
variable {X : Cx} {S0 : Sto} {H0 : Hp} {a b : Expr} {fa fb : PF} {pos : Pos}

/-! ### chains -/
def fChain (o o' : O2) (fa fb fc : PF) : PF := fun ρ S Q => fa ρ S fun x S1 => fb ρ S1 fun y S2 => o x y S2 fun z S3 => match z with
  | .bl k => cnd k (fc ρ S3 fun w S4 => o' y w S4 Q) (Q (.bl false) S3)
  | _ => False
theorem chain_mono {c : Expr} {fc : PF} {o o' : O2} (mo : ∀ x y S Q Q', (∀ p S', Q p S' → Q' p S') → o x y S Q → o x y S Q') (mo' : ∀ x y S Q Q', (∀ p S', Q p S' → Q' p S') → o' x y S Q → o' x y S Q')
    (ha : PV X S0 H0 a fa) (hb : PV X S0 H0 b fb) (hc : PV X S0 H0 c fc) : ∀ ρ S Q Q', (∀ p S', Q p S' → Q' p S') → fChain o o' fa fb fc ρ S Q → fChain o o' fa fb fc ρ S Q' :=
  fun ρ S Q Q' i q => ha.mono _ _ _ _ (fun x S1 q => hb.mono _ _ _ _ (fun y S2 q => mo _ _ _ _ _ (fun z S3 q => by
    cases z with
    | bl k => cases k with
      | true => exact hc.mono _ _ _ _ (fun w S4 q => mo' _ _ _ _ _ i q) q
      | false => exact i _ _ q
    | _ => exact q) q) q) q
theorem lift_chain {c : Expr} {fc : PF} {r r' : R2} {o o' : O2} (s : Sim2 X.K r o) (s' : Sim2 X.K r' o') (ha : PV X S0 H0 a fa) (hb : PV X S0 H0 b fb) (hc : PV X S0 H0 c fc) {σ : L2.St} {H : Hp} {Q : VK}
    (h : lift X.K S0 H0 (fChain o o' fa fb fc) σ H Q) : tChain r r' (lift X.K S0 H0 fa) (lift X.K S0 H0 fb) (lift X.K S0 H0 fc) σ H Q := by
  obtain ⟨ρ, S, re, rs, ex, q⟩ := h
  refine ⟨ρ, S, re, rs, ex, ha.mono _ _ _ _ (fun p S1 q v H1 rv rs1 ex1 => ?_) q⟩
  refine ⟨ρ, S1, re.ext rs ex1, rs1, ex.trans ex1, hb.mono _ _ _ _ (fun p' S2 q u H2 ru rs2 ex2 => ?_) q⟩
  refine s.run p p' S2 _ v u H2 _ (RepV.ext rs1 ex2 p v rv) ru rs2 q fun z S3 zv H3 q rz rs3 ex3 => ?_
  have e3 := (ex1.trans ex2).trans ex3
  cases z with
  | bl k =>
    refine ⟨k, rz, ?_⟩
    cases k with
    | true =>
      refine ⟨ρ, S3, re.ext rs e3, rs3, ex.trans e3, hc.mono _ _ _ _ (fun w S4 q wv H4 rw' rs4 ex4 => ?_) q⟩
      exact s'.run p' w S4 _ u wv H4 Q (RepV.ext rs2 (ex3.trans ex4) p' u ru) rw' rs4 q fun p5 S5 z5 H5 q r5 rs5 ex5 => q z5 H5 r5 rs5 ((e3.trans ex4).trans ex5)
    | false => exact q (.bl false) H3 rfl rs3 e3
  | _ => exact q.elim
theorem pv_chain {c : Expr} {fc : PF} {op op' : CmpOp} {r r' : R2} {o o' : O2} (ho : OpR X (compareOp op) r) (s : Sim2 X.K r o) (ho' : OpR X (compareOp op') r') (s' : Sim2 X.K r' o') (ha : PV X S0 H0 a fa) (hb : PV X S0 H0 b fb) (hc : PV X S0 H0 c fc)
    (hm : lastMarks [op, op'] [b, c] = false := by with_unfolding_all rfl) : PV X S0 H0 (.Compare a [op, op'] [b, c] pos) (fChain o o' fa fb fc) :=
  ⟨chain_mono s.mono s'.mono ha hb hc, PE.imp (pe_chain ho ho' ha.pe hb.pe hc.pe hm) fun _ _ _ h => lift_chain s s' ha hb hc h⟩
theorem pb_chain {c : Expr} {fc : PF} {op op' : CmpOp} {r r' : R2} {o o' : O2} (ho : OpR X (compareOp op) r) (s : Sim2 X.K r o) (ho' : OpR X (compareOp op') r') (s' : Sim2 X.K r' o') (ha : PV X S0 H0 a fa) (hb : PV X S0 H0 b fb) (hc : PV X S0 H0 c fc)
    (hm : lastMarks [op, op'] [b, c] = false := by with_unfolding_all rfl) : PB X S0 H0 (.Compare a [op, op'] [b, c] pos) (fBV (fChain o o' fa fb fc)) := by
  have h := pv_chain (pos := pos) ho s ho' s' ha hb hc hm
  refine ⟨fBV_mono h, PT.imp (pt_chain ho ho' ha.pe hb.pe hc.pe hm) fun σ H Q q => ?_⟩
  refine lift_chain s s' ha hb hc ?_
  obtain ⟨ρ, S, re, rs, ex, q⟩ := q
  refine ⟨ρ, S, re, rs, ex, h.mono _ _ _ _ (fun p S1 q v H1 rv rs1 ex1 => ?_) q⟩
  cases p with
  | bl b => exact ⟨b, rv, q H1 rs1 ex1⟩
  | _ => exact q.elim

/-! ### subscripts, slices -/
def oIx : O2 := fun x y S Q => match x, y with
  | .str z, .int i => z.length ≤ sizeLine ∧ (match atI z.cps.toList i with | some c => Q (.str ⟨#[c]⟩) S | none => False)
  | .tup xs, .int i => (match atI xs i with | some p => Q p S | none => False)
  | x, .int i => (match rdL S x with
    | some xs => (match atI xs i with | some p => Q p S | none => False)
    | none => False)
  | _, _ => False
theorem atI_rep {K : PySem.W.Frag} {H : Hp} {S : Sto} {xs : List Pv} {vs : List V} {i : Int} {p : Pv} (r : RepVs K H S xs vs) (h : atI xs i = some p) : ∃ v, atI vs i = some v ∧ RepV K H S p v := by
  unfold atI at h ⊢
  rw [r.len]
  cases e : ixN xs.length i with
  | none => rw [e] at h; cases h
  | some j =>
    rw [e] at h
    exact r.get h
theorem pv_ix (ha : PV X S0 H0 a fa) (hb : PV X S0 H0 b fb) (hs : PlainIx b := by exact fun _ _ => rfl) : PV X S0 H0 (.Subscript a b pos) (f2 oIx fa fb) := by
  have s : Sim2 X.K (rIx X.K) oIx := by
    refine ⟨fun x y S Q Q' h q => ?_, fun x y S Qp v u H Q rx ry rs h k => ?_⟩
    · unfold oIx at q ⊢
      split at q
      · refine ⟨q.1, ?_⟩
        have q := q.2
        split at q <;> first | exact h _ _ q | exact q.elim
      · split at q <;> first | exact h _ _ q | exact q.elim
      · split at q
        · rename_i e
          split at q <;> first | exact h _ _ q | exact q.elim
        · exact q.elim
      · exact q.elim
    · unfold oIx at h
      split at h
      · rename_i z i
        obtain ⟨hz, h⟩ := h
        split at h
        · rename_i c e
          exact .inr (.inr ⟨z, i, c, rx, ry, hz, e, k _ S _ H h rfl rs (Ext.refl S H)⟩)
        · exact h.elim
      · split at h
        · rename_i p e
          obtain ⟨q, vs, e1, hq, r⟩ := rx
          obtain ⟨v', e2, r2⟩ := atI_rep r e
          exact .inr (.inl ⟨q, vs, _, v', e1, ry, hq, e2, k _ S _ H h r2 rs (Ext.refl S H)⟩)
        · exact h.elim
      · split at h
        · rename_i xs e0
          split at h
          · rename_i p e
            obtain ⟨q, vs, e1, hq, r⟩ := rdL_rep rs rx e0
            obtain ⟨v', e2, r2⟩ := atI_rep r e
            exact .inl ⟨q, vs, _, v', e1, ry, hq, e2, k _ S _ H h r2 rs (Ext.refl S H)⟩
          · exact h.elim
        · exact h.elim
      · exact h.elim
  exact ⟨f2_mono s.mono ha hb, PE.imp (pe_ix ix_seq ha.pe hb.pe hs) fun _ _ _ h => lift2 s ha hb h⟩

/-- a slice's part -/
abbrev PFO := Env' → Sto → (Option Int → Sto → Prop) → Prop
def fNoPart : PFO := fun _ S Q => Q none S
def fPart (f : PF) : PFO := fun ρ S Q => f ρ S fun p S1 => match p with | .int i => Q (some i) S1 | _ => False
structure PVo (X : Cx) (S0 : Sto) (H0 : Hp) (e : Option Expr) (f : PFO) : Prop where
  mono : ∀ ρ S Q Q', (∀ p S', Q p S' → Q' p S') → f ρ S Q → f ρ S Q'
  po : PO X e fun σ H Q => ∃ ρ S, RepE X.K H S σ ρ ∧ RepS X.K H S ∧ Ext S0 H0 S H ∧ f ρ S fun o S' => ∀ H', RepS X.K H' S' → Ext S H S' H' → Q o H'
theorem pvo_none : PVo X S0 H0 none fNoPart := ⟨fun _ _ _ _ h q => h _ _ q, ⟨fun pins s σ H Q I ⟨ρ, S, _, rs, _, q⟩ => po_none.run pins s σ H Q I (q H rs (Ext.refl S H))⟩⟩
theorem pvo_some (h : PV X S0 H0 a fa) : PVo X S0 H0 (some a) (fPart fa) := by
  refine ⟨fun ρ S Q Q' i q => h.mono _ _ _ _ (fun p S1 q => by cases p <;> first | exact i _ _ q | exact q) q, ⟨fun pins s σ H Q I ⟨ρ, S, re, rs, ex, q⟩ => (po_some h.pe).run pins s σ H Q I ?_⟩⟩
  refine ⟨ρ, S, re, rs, ex, h.mono _ _ _ _ (fun p S1 q v H1 rv rs1 ex1 => ?_) q⟩
  cases p with
  | int i => exact ⟨i, rv, q H1 rs1 ex1⟩
  | _ => exact q.elim
def cutP (xs : List Pv) (lo hi : Option Int) : List Pv := (xs.drop (HT.sIx xs.length 0 lo)).take (HT.sIx xs.length xs.length hi - HT.sIx xs.length 0 lo)
def oSl (x : Pv) (lo hi : Option Int) (S : Sto) (Q : QV) : Prop := match x with
  | .str z => z.length ≤ sizeLine ∧ Q (.str (cutS z lo hi)) S
  | .tup xs => Q (.tup (cutP xs lo hi)) S
  | x => match rdL S x with
    | some xs => Q (.lst (cutP xs lo hi)) S
    | none => False
def fSl (fa : PF) (fl fh : PFO) : PF := fun ρ S Q => fa ρ S fun x S1 => fl ρ S1 fun l S2 => fh ρ S2 fun h S3 => oSl x l h S3 Q
theorem cut_rep {K : PySem.W.Frag} {H : Hp} {S : Sto} {xs : List Pv} {vs : List V} (r : RepVs K H S xs vs) (lo hi : Option Int) : RepVs K H S (cutP xs lo hi) (cutV vs lo hi) := by
  unfold cutP cutV
  rw [r.len]
  exact (r.drop _).take _
theorem cutP_all {xs : List Pv} {lo hi : Option Int} (h1 : HT.sIx xs.length 0 lo = 0) (h2 : HT.sIx xs.length xs.length hi = xs.length) : cutP xs lo hi = xs := by
  unfold cutP
  rw [h1, h2, List.drop_zero, Nat.sub_zero, List.take_length]
theorem oSl_mono {x : Pv} {lo hi : Option Int} {S : Sto} {Q Q' : QV} (i : ∀ p S', Q p S' → Q' p S') (q : oSl x lo hi S Q) : oSl x lo hi S Q' := by
  unfold oSl at q ⊢
  split at q
  · exact ⟨q.1, i _ _ q.2⟩
  · exact i _ _ q
  · split at q
    · exact i _ _ q
    · exact q.elim
theorem pv_slice {lo hi : Option Expr} {fl fh : PFO} {p2 : Pos} (ha : PV X S0 H0 a fa) (hl : PVo X S0 H0 lo fl) (hh : PVo X S0 H0 hi fh) : PV X S0 H0 (.Subscript a (.Slice lo hi none p2) pos) (fSl fa fl fh) := by
  refine ⟨fun ρ S Q Q' i q => ha.mono _ _ _ _ (fun x S1 q => hl.mono _ _ _ _ (fun l S2 q => hh.mono _ _ _ _ (fun h S3 q => oSl_mono i q) q) q) q, PE.imp (pe_slice (SlR.or sl_str (SlR.or sl_tupA sl_list)) ha.pe hl.po hh.po) fun σ H Q ⟨ρ, S, re, rs, ex, q⟩ => ?_⟩
  refine ⟨ρ, S, re, rs, ex, ha.mono _ _ _ _ (fun x S1 q v H1 rv rs1 ex1 => ?_) q⟩
  refine ⟨ρ, S1, re.ext rs ex1, rs1, ex.trans ex1, hl.mono _ _ _ _ (fun l S2 q H2 rs2 ex2 => ?_) q⟩
  have e2 := ex1.trans ex2
  refine ⟨ρ, S2, re.ext rs e2, rs2, ex.trans e2, hh.mono _ _ _ _ (fun h S3 q H3 rs3 ex3 => ?_) q⟩
  have e3 := e2.trans ex3
  have rv3 := RepV.ext rs1 (ex2.trans ex3) x v rv
  unfold oSl at q
  split at q
  · exact .inl ⟨_, rv3, q.1, q.2 _ H3 rfl rs3 e3⟩
  · rename_i xs
    have rv4 := rv3
    obtain ⟨t, vs, e, hq, r⟩ := rv3
    refine .inr (.inl ⟨t, vs, e, hq, fun z => ?_, fun _ p np => ?_⟩)
    · rw [r.len] at z
      rw [cutP_all z.1 z.2] at q
      exact q _ H3 (e ▸ rv4) rs3 e3
    · obtain ⟨a1, a2, a3⟩ := newT_k rs3 np (cut_rep r l h)
      exact q _ _ a1 a2 (e3.trans a3)
  · split at q
    · rename_i xs e0
      obtain ⟨t, vs, e, hq, r⟩ := rdL_rep rs3 rv3 e0
      refine .inr (.inr ⟨t, vs, e, hq, fun p np => ?_⟩)
      obtain ⟨a1, a2, a3⟩ := newL_k rs3 np (cut_rep r l h)
      exact q _ _ a1 a2 (e3.trans a3)
    · exact q.elim

/-! ### built-ins -/
def lenP (S : Sto) : Pv → Option Nat
  | .str z => if z.length ≤ sizeLine then some z.length else none
  | .tup xs => some xs.length
  | x => (rdL S x).map (·.length)
def oLen : On := fun ps S Q => match ps with
  | [x] => (match lenP S x with | some n => Q (.int n) S | none => False)
  | _ => False
theorem one_mono {o : O1} {o' : On} (m : ∀ x S Q Q', (∀ p S', Q p S' → Q' p S') → o x S Q → o x S Q') (e : ∀ ps S Q, o' ps S Q ↔ ∃ x, ps = [x] ∧ o x S Q) : ∀ x S Q Q', (∀ p S', Q p S' → Q' p S') → o' x S Q → o' x S Q' := fun x S Q Q' h q => by
  obtain ⟨y, e1, q⟩ := (e _ _ _).mp q
  exact (e _ _ _).mpr ⟨y, e1, m _ _ _ _ h q⟩
theorem sim_len : SimN X.K (fun xs H Q => (∃ z, xs = [.str z] ∧ z.length ≤ sizeLine ∧ Q (.int z.length) H) ∨ (∃ p ys, xs = [.ref p] ∧ (SqL X.K H p ys ∨ SqT X.K H p ys) ∧ Q (.int ys.length) H)) oLen := by
  refine ⟨fun x S Q Q' h q => ?_, fun x S Qp v H Q rx rs h k => ?_⟩
  · unfold oLen at q ⊢
    split at q
    · split at q <;> first | exact h _ _ q | exact q.elim
    · exact q.elim
  · unfold oLen at h
    split at h
    · rename_i y
      obtain ⟨v1, rfl, r1⟩ := rx.one
      split at h
      · rename_i n e
        cases y with
        | str z =>
          simp only [lenP] at e
          split at e
          · rename_i hz
            cases e
            exact .inl ⟨z, by rw [show v1 = .str z from r1], hz, k _ S _ H h rfl rs (Ext.refl S H)⟩
          · cases e
        | tup xs =>
          simp only [lenP, Option.some.injEq] at e
          obtain ⟨t, vs, e1, hq, r⟩ := r1
          exact .inr ⟨t, vs, by rw [e1], .inr hq, by rw [r.len, e]; exact k _ S _ H h rfl rs (Ext.refl S H)⟩
        | lst xs =>
          obtain ⟨t, vs, e1, hq, r⟩ := rdL_rep (xs := xs) rs r1 rfl
          have e : xs.length = n := by simpa [lenP, rdL] using e
          exact .inr ⟨t, vs, by rw [e1], .inl hq, by rw [r.len, e]; exact k _ S _ H h rfl rs (Ext.refl S H)⟩
        | scr xs =>
          obtain ⟨t, vs, e1, hq, r⟩ := rdL_rep (xs := xs) rs r1 rfl
          have e : xs.length = n := by simpa [lenP, rdL] using e
          exact .inr ⟨t, vs, by rw [e1], .inl hq, by rw [r.len, e]; exact k _ S _ H h rfl rs (Ext.refl S H)⟩
        | ref b =>
          simp only [lenP, Option.map_eq_some_iff] at e
          obtain ⟨xs, e0, e⟩ := e
          obtain ⟨t, vs, e1, hq, r⟩ := rdL_rep rs r1 e0
          exact .inr ⟨t, vs, by rw [e1], .inl hq, by rw [r.len, e]; exact k _ S _ H h rfl rs (Ext.refl S H)⟩
        | _ => simp [lenP, rdL] at e
      · exact h.elim
    · exact h.elim
variable {e : Expr} {es : List Expr} {fs : PFs} {p : Pos}
theorem pv_len (hm : X.mg "len" = none) (ha : PVs X S0 H0 [a] fs) (hg : Gl X "len" := by rfl) (he : starEach (a :: []) X.env = (false, eval a X.env) :: starEach [] X.env := by rfl) (hpl : (backTo pos (starEach [] X.env)).any (·.1) = false := by rfl) : PV X S0 H0 (.Call (.Name "len" p) [a] [] pos) (fN oLen fs) :=
  pv_callB (CallR.or call_len_str call_len_seq) sim_len hg hm PySem.boot_len ha (by decide) (by decide) he hpl
def oAbs : On := fun ps S Q => match ps with
  | [.int i] => Q (.int (if i < 0 then -i else i)) S
  | _ => False
theorem pv_abs (hm : X.mg "abs" = none) (ha : PVs X S0 H0 [a] fs) (hg : Gl X "abs" := by rfl) (he : starEach (a :: []) X.env = (false, eval a X.env) :: starEach [] X.env := by rfl) (hpl : (backTo pos (starEach [] X.env)).any (·.1) = false := by rfl) : PV X S0 H0 (.Call (.Name "abs" p) [a] [] pos) (fN oAbs fs) := by
  refine pv_callB call_abs ⟨fun x S Q Q' h q => ?_, fun x S Qp v H Q rx rs h k => ?_⟩ hg hm (by decide +kernel) ha (by decide) (by decide) he hpl
  · unfold oAbs at q ⊢
    split at q <;> first | exact h _ _ q | exact q.elim
  · unfold oAbs at h
    split at h
    · obtain ⟨v1, rfl, r1⟩ := rx.one
      exact ⟨_, by rw [show v1 = _ from r1], k _ S _ H h rfl rs (Ext.refl S H)⟩
    · exact h.elim
def oMax : On := fun ps S Q => match ps with
  | [.int i, .int j] => Q (.int (if j > i then j else i)) S
  | _ => False
def oMin : On := fun ps S Q => match ps with
  | [.int i, .int j] => Q (.int (if j < i then j else i)) S
  | _ => False
theorem pv_max (hc : X.calm = true) (hm : X.mg "max" = none) (ha : PVs X S0 H0 [a, b] fs) (hg : Gl X "max" := by rfl) (he : starEach (a :: [b]) X.env = (false, eval a X.env) :: starEach [b] X.env := by rfl) (hpl : (backTo pos (starEach [b] X.env)).any (·.1) = false := by rfl) : PV X S0 H0 (.Call (.Name "max" p) [a, b] [] pos) (fN oMax fs) := by
  refine pv_callB (call_max2 hc) ⟨fun x S Q Q' h q => ?_, fun x S Qp v H Q rx rs h k => ?_⟩ hg hm (by decide +kernel) ha (by decide) (by decide) he hpl
  · unfold oMax at q ⊢
    split at q <;> first | exact h _ _ q | exact q.elim
  · unfold oMax at h
    split at h
    · obtain ⟨v1, v2, rfl, r1, r2⟩ := rx.two
      exact ⟨_, _, by rw [show v1 = _ from r1, show v2 = _ from r2], k _ S _ H h rfl rs (Ext.refl S H)⟩
    · exact h.elim
theorem pv_min (hc : X.calm = true) (hm : X.mg "min" = none) (ha : PVs X S0 H0 [a, b] fs) (hg : Gl X "min" := by rfl) (he : starEach (a :: [b]) X.env = (false, eval a X.env) :: starEach [b] X.env := by rfl) (hpl : (backTo pos (starEach [b] X.env)).any (·.1) = false := by rfl) : PV X S0 H0 (.Call (.Name "min" p) [a, b] [] pos) (fN oMin fs) := by
  refine pv_callB (call_min2 hc) ⟨fun x S Q Q' h q => ?_, fun x S Qp v H Q rx rs h k => ?_⟩ hg hm (by decide +kernel) ha (by decide) (by decide) he hpl
  · unfold oMin at q ⊢
    split at q <;> first | exact h _ _ q | exact q.elim
  · unfold oMin at h
    split at h
    · obtain ⟨v1, v2, rfl, r1, r2⟩ := rx.two
      exact ⟨_, _, by rw [show v1 = _ from r1, show v2 = _ from r2], k _ S _ H h rfl rs (Ext.refl S H)⟩
    · exact h.elim
def oInt : On := fun ps S Q => match ps with
  | [.int i] => Q (.int i) S
  | [.bl c] => Q (.int (if c then 1 else 0)) S
  | _ => False
theorem pv_intOf (hm : X.mg "int" = none) (ha : PVs X S0 H0 [a] fs) (hg : Gl X "int" := by rfl) (he : starEach (a :: []) X.env = (false, eval a X.env) :: starEach [] X.env := by rfl) (hpl : (backTo pos (starEach [] X.env)).any (·.1) = false := by rfl) : PV X S0 H0 (.Call (.Name "int" p) [a] [] pos) (fN oInt fs) := by
  refine pv_callTy call_int1 ⟨fun x S Q Q' h q => ?_, fun x S Qp v H Q rx rs h k => ?_⟩ hg hm (by decide +kernel) ha (by decide) (by decide) he hpl
  · unfold oInt at q ⊢
    split at q <;> first | exact h _ _ q | exact q.elim
  · unfold oInt at h
    split at h
    · obtain ⟨v1, rfl, r1⟩ := rx.one
      exact .inl ⟨_, by rw [show v1 = _ from r1], k _ S _ H h rfl rs (Ext.refl S H)⟩
    · obtain ⟨v1, rfl, r1⟩ := rx.one
      exact .inr ⟨_, by rw [show v1 = _ from r1], k _ S _ H h rfl rs (Ext.refl S H)⟩
    · exact h.elim
def oTuple : On := fun ps S Q => match ps with
  | [.tup xs] => Q (.tup xs) S
  | [x] => (match rdL S x with | some xs => Q (.tup xs) S | none => False)
  | _ => False
theorem pv_tupleOf (hm : X.mg "tuple" = none) (ha : PVs X S0 H0 [a] fs) (hg : Gl X "tuple" := by rfl) (he : starEach (a :: []) X.env = (false, eval a X.env) :: starEach [] X.env := by rfl) (hpl : (backTo pos (starEach [] X.env)).any (·.1) = false := by rfl) : PV X S0 H0 (.Call (.Name "tuple" p) [a] [] pos) (fN oTuple fs) := by
  refine pv_callTy call_tuple_of ⟨fun x S Q Q' h q => ?_, fun x S Qp v H Q rx rs h k => ?_⟩ hg hm (by decide +kernel) ha (by decide) (by decide) he hpl
  · unfold oTuple at q ⊢
    split at q
    · exact h _ _ q
    · split at q <;> first | exact h _ _ q | exact q.elim
    · exact q.elim
  · unfold oTuple at h
    split at h
    · obtain ⟨v1, rfl, r1⟩ := rx.one
      have r2 := r1
      obtain ⟨t, vs, e1, hq, r⟩ := r1
      exact ⟨t, vs, by rw [e1], .inr ⟨hq, k _ S _ H h (e1 ▸ r2) rs (Ext.refl S H)⟩⟩
    · obtain ⟨v1, rfl, r1⟩ := rx.one
      split at h
      · rename_i e0
        obtain ⟨t, vs, e1, hq, r⟩ := rdL_rep rs r1 e0
        refine ⟨t, vs, by rw [e1], .inl ⟨hq, fun q nq => ?_⟩⟩
        obtain ⟨a1, a2, a3⟩ := newT_k rs nq r
        exact k _ S _ _ h a1 a2 a3
      · exact h.elim
    · exact h.elim
def seqP (S : Sto) : Pv → Option (List Pv)
  | .tup xs => some xs
  | x => rdL S x
def oList : On := fun ps S Q => match ps with
  | [x] => (match seqP S x with | some xs => Q (.lst xs) S | none => False)
  | _ => False
def oListT : On := fun ps S Q => match ps with
  | [x] => (match seqP S x with | some xs => ∀ a, S a = none → Q (.ref a) (put S a (.lst xs)) | none => False)
  | _ => False
theorem seq_rep {K : PySem.W.Frag} {H : Hp} {S : Sto} (rs : RepS K H S) {x : Pv} {v : V} {xs : List Pv} (h : RepV K H S x v) (e : seqP S x = some xs) : ∃ a vs, v = .ref a ∧ (SqL K H a vs ∨ SqT K H a vs) ∧ RepVs K H S xs vs := by
  cases x with
  | tup ys =>
    have e' : ys = xs := by simpa [seqP] using e
    subst e'
    obtain ⟨t, vs, e1, hq, r⟩ := h
    exact ⟨t, vs, e1, .inr hq, r⟩
  | _ =>
    obtain ⟨t, vs, e1, hq, r⟩ := rdL_rep rs h (by simpa [seqP] using e)
    exact ⟨t, vs, e1, .inl hq, r⟩
theorem pv_listOf (hm : X.mg "list" = none) (ha : PVs X S0 H0 [a] fs) (hg : Gl X "list" := by rfl) (he : starEach (a :: []) X.env = (false, eval a X.env) :: starEach [] X.env := by rfl) (hpl : (backTo pos (starEach [] X.env)).any (·.1) = false := by rfl) : PV X S0 H0 (.Call (.Name "list" p) [a] [] pos) (fN oList fs) := by
  refine pv_callTy call_list_of ⟨fun x S Q Q' h q => ?_, fun x S Qp v H Q rx rs h k => ?_⟩ hg hm (by decide +kernel) ha (by decide) (by decide) he hpl
  · unfold oList at q ⊢
    split at q
    · split at q <;> first | exact h _ _ q | exact q.elim
    · exact q.elim
  · unfold oList at h
    split at h
    · obtain ⟨v1, rfl, r1⟩ := rx.one
      split at h
      · rename_i e0
        obtain ⟨t, vs, e1, hq, r⟩ := seq_rep rs r1 e0
        refine ⟨t, vs, by rw [e1], hq, fun q nq => ?_⟩
        obtain ⟨a1, a2, a3⟩ := newL_k rs nq r
        exact k _ S _ _ h a1 a2 a3
      · exact h.elim
    · exact h.elim
theorem pv_listOfT (hm : X.mg "list" = none) (ha : PVs X S0 H0 [a] fs) (hg : Gl X "list" := by rfl) (he : starEach (a :: []) X.env = (false, eval a X.env) :: starEach [] X.env := by rfl) (hpl : (backTo pos (starEach [] X.env)).any (·.1) = false := by rfl) : PV X S0 H0 (.Call (.Name "list" p) [a] [] pos) (fN oListT fs) := by
  refine pv_callTy call_list_of ⟨fun x S Q Q' h q => ?_, fun x S Qp v H Q rx rs h k => ?_⟩ hg hm (by decide +kernel) ha (by decide) (by decide) he hpl
  · unfold oListT at q ⊢
    split at q
    · split at q
      · exact fun a ha => h _ _ (q a ha)
      · exact q.elim
    · exact q.elim
  · unfold oListT at h
    split at h
    · obtain ⟨v1, rfl, r1⟩ := rx.one
      split at h
      · rename_i e0
        obtain ⟨t, vs, e1, hq, r⟩ := seq_rep rs r1 e0
        refine ⟨t, vs, by rw [e1], hq, fun q nq => ?_⟩
        exact k _ _ _ _ (h q (rs.fr nq)) rfl (rs.newL nq r) (Ext.newS nq)
      · exact h.elim
    · exact h.elim
/-- all, any of a list of truths -/
def allBl : List Pv → Option (List Bool)
  | [] => some []
  | .bl b :: ps => (allBl ps).map (b :: ·)
  | _ => none
theorem allBl_rep {K : PySem.W.Frag} {H : Hp} {S : Sto} : ∀ {ps : List Pv} {vs : List V} {bs : List Bool}, RepVs K H S ps vs → allBl ps = some bs → vs = bs.map V.bl
  | [], vs, bs, r, e => by
    have e1 : vs = [] := r
    have e2 : [] = bs := by simpa [allBl] using e
    rw [e1, ← e2]; rfl
  | .bl b :: ps, vs, bs, ⟨v, q, e1, r1, r2⟩, e => by
    simp only [allBl, Option.map_eq_some_iff] at e
    obtain ⟨cs, e2, e3⟩ := e
    rw [e1, ← e3, show v = .bl b from r1, allBl_rep r2 e2]; rfl
  | .non :: ps, _, _, _, e => by simp [allBl] at e
  | .int _ :: ps, _, _, _, e => by simp [allBl] at e
  | .str _ :: ps, _, _, _, e => by simp [allBl] at e
  | .tup _ :: ps, _, _, _, e => by simp [allBl] at e
  | .lst _ :: ps, _, _, _, e => by simp [allBl] at e
  | .scr _ :: ps, _, _, _, e => by simp [allBl] at e
  | .dct _ _ :: ps, _, _, _, e => by simp [allBl] at e
  | .ref _ :: ps, _, _, _, e => by simp [allBl] at e
  | .ty _ :: ps, _, _, _, e => by simp [allBl] at e
def oAll : On := fun ps S Q => match ps with
  | [x] => (match (rdL S x).bind allBl with | some bs => Q (.bl (bs.all id)) S | none => False)
  | _ => False
def oAny : On := fun ps S Q => match ps with
  | [x] => (match (rdL S x).bind allBl with | some bs => Q (.bl (bs.any id)) S | none => False)
  | _ => False
theorem pv_all (hc : X.calm = true) (hm : X.mg "all" = none) (ha : PVs X S0 H0 [a] fs) (hg : Gl X "all" := by rfl) (he : starEach (a :: []) X.env = (false, eval a X.env) :: starEach [] X.env := by rfl) (hpl : (backTo pos (starEach [] X.env)).any (·.1) = false := by rfl) : PV X S0 H0 (.Call (.Name "all" p) [a] [] pos) (fN oAll fs) := by
  refine pv_callB (cr_all hc) ⟨fun x S Q Q' h q => ?_, fun x S Qp v H Q rx rs h k => ?_⟩ hg hm (by decide +kernel) ha (by decide) (by decide) he hpl
  · unfold oAll at q ⊢
    split at q
    · split at q <;> first | exact h _ _ q | exact q.elim
    · exact q.elim
  · unfold oAll at h
    split at h
    · obtain ⟨v1, rfl, r1⟩ := rx.one
      split at h
      · rename_i bs e
        rw [Option.bind_eq_some_iff] at e
        obtain ⟨xs, e0, e⟩ := e
        obtain ⟨t, vs, e1, hq, r⟩ := rdL_rep rs r1 e0
        rw [allBl_rep r e] at hq
        exact ⟨t, bs, by rw [e1], hq, k _ S _ H h rfl rs (Ext.refl S H)⟩
      · exact h.elim
    · exact h.elim
theorem pv_any (hc : X.calm = true) (hm : X.mg "any" = none) (ha : PVs X S0 H0 [a] fs) (hg : Gl X "any" := by rfl) (he : starEach (a :: []) X.env = (false, eval a X.env) :: starEach [] X.env := by rfl) (hpl : (backTo pos (starEach [] X.env)).any (·.1) = false := by rfl) : PV X S0 H0 (.Call (.Name "any" p) [a] [] pos) (fN oAny fs) := by
  refine pv_callB (cr_any hc) ⟨fun x S Q Q' h q => ?_, fun x S Qp v H Q rx rs h k => ?_⟩ hg hm (by decide +kernel) ha (by decide) (by decide) he hpl
  · unfold oAny at q ⊢
    split at q
    · split at q <;> first | exact h _ _ q | exact q.elim
    · exact q.elim
  · unfold oAny at h
    split at h
    · obtain ⟨v1, rfl, r1⟩ := rx.one
      split at h
      · rename_i bs e
        rw [Option.bind_eq_some_iff] at e
        obtain ⟨xs, e0, e⟩ := e
        obtain ⟨t, vs, e1, hq, r⟩ := rdL_rep rs r1 e0
        rw [allBl_rep r e] at hq
        exact ⟨t, bs, by rw [e1], hq, k _ S _ H h rfl rs (Ext.refl S H)⟩
      · exact h.elim
    · exact h.elim
/-! ### repr -/
mutual
/-- plain data with empty dicts in it, but no lists -/
def isE : Pv → Bool
  | .non => true | .bl _ => true | .int _ => true | .str _ => true | .tup xs => isEs xs | .dct ks vs => ks.isEmpty && vs.isEmpty | .lst _ => false | .scr _ => false | .ref _ => false | .ty _ => false
def isEs : List Pv → Bool
  | [] => true
  | p :: ps => isE p && isEs ps
end
mutual
inductive DpE (K : PySem.W.Frag) (H : Hp) : V → PyData → Prop
  | non : DpE K H .non .none
  | bl (b : Bool) : DpE K H (.bl b) (.bool b)
  | int (i : Int) : DpE K H (.int i) (.int i)
  | str (x : Str) : DpE K H (.str x) (.str x)
  | dic {a : Addr} : Rd H a (.dK []) → DpE K H (.ref a) (.dict [])
  | tup {a : Addr} {xs : List V} {ds : List PyData} : SqT K H a xs → DpEs K H xs ds → DpE K H (.ref a) (.tuple ds)
inductive DpEs (K : PySem.W.Frag) (H : Hp) : List V → List PyData → Prop
  | nil : DpEs K H [] []
  | cons {v : V} {vs : List V} {d : PyData} {ds : List PyData} : DpE K H v d → DpEs K H vs ds → DpEs K H (v :: vs) (d :: ds)
end
section
variable {pins : List (Addr × Obj)} {σ : L2.St} {H : Hp} {s : Shared} {S : Sto}
mutual
theorem dpe_of : ∀ (p : Pv) (v : V), RepV X.K H S p v → isE p = true → DpE X.K H v (toD p)
  | .non, v, h, _ => by have e : v = _ := h; subst e; exact .non
  | .bl b, v, h, _ => by have e : v = _ := h; subst e; exact .bl b
  | .int b, v, h, _ => by have e : v = _ := h; subst e; exact .int b
  | .str b, v, h, _ => by have e : v = _ := h; subst e; exact .str b
  | .tup ps, _, ⟨a, vs, e, h, r⟩, d => by subst e; exact .tup h (dpes_of ps vs r d)
  | .dct ks ps, _, ⟨a, kvs, e, h, hs, r1, r2⟩, d => by
    subst e
    have d' : ks.isEmpty = true ∧ ps.isEmpty = true := by simpa [isE] using d
    have e1 : kvs = [] := by
      have := r1.len
      rw [List.isEmpty_iff.mp d'.1] at this
      exact List.length_eq_zero_iff.mp (by simpa using this)
    subst e1
    exact .dic h
  | .lst _, _, _, d => by cases d
  | .scr _, _, _, d => by cases d
  | .ref _, _, _, d => by cases d
  | .ty _, _, _, d => by cases d
theorem dpes_of : ∀ (ps : List Pv) (vs : List V), RepVs X.K H S ps vs → isEs ps = true → DpEs X.K H vs (toDs ps)
  | [], _, h, _ => by have e : _ = [] := h; subst e; exact .nil
  | p :: ps, _, ⟨v, r, e, h1, h2⟩, d => by
    subst e
    have d' : isE p = true ∧ isEs ps = true := by simpa [isEs] using d
    exact .cons (dpe_of p v h1 d'.1) (dpes_of ps r h2 d'.2)
end
mutual
theorem DpE.reads (I : Inv X pins σ H s) : ∀ (d : PyData) (v : V) (u : Value), DpE X.K H v d → RelV v u → ∃ as, Reads s.heap u d as ∧ sysModules ∉ as
  | .none, _, _, h, r => by cases h; cases r; exact ⟨_, Reads.none, by simp⟩
  | .bool b, _, _, h, r => by cases h; cases r; exact ⟨_, Reads.bool b, by simp⟩
  | .int i, _, _, h, r => by cases h; obtain ⟨t, rfl⟩ := r; exact ⟨_, Reads.int i t, by simp⟩
  | .str x, _, _, h, r => by cases h; obtain ⟨t, rfl⟩ := r; exact ⟨_, Reads.str x t, by simp⟩
  | .list ds, _, _, h, r => by cases h
  | .tuple ds, _, _, h, r => by
    cases h with
    | tup hs ha =>
      cases r
      obtain ⟨its, rv, ⟨o, ho, hc, n, hd⟩, _⟩ := I.tuple hs
      obtain ⟨as, hr, hn⟩ := DpE.readsAll I ds _ its ha rv
      exact ⟨_, Reads.tuple ho hc hd hr, hn⟩
  | .dict kvs, _, _, h, r => by
    cases h with
    | dic hd =>
      rename_i a
      obtain rfl : _ = Value.ref a := r
      obtain ⟨_, hsm, vs, rel, o, es, ep, ho, hx, hdt, _, hp, _⟩ := dk_rd I.hok hd
      have ev : vs = [] := by cases rel; rfl
      subst ev
      have ee : es.toList = [] := by
        cases hes : es.toList with
        | nil => rfl
        | cons e r => rw [hes] at hp; cases hp
      refine ⟨_, Reads.dict (kvs := []) ho hx.1 hdt (by rw [ee]; exact .nil) (by rw [ee]; exact .nil), ?_⟩
      intro z
      have : sysModules = a := by simpa using z
      rw [this] at hsm
      simp at hsm
theorem DpE.readsAll (I : Inv X pins σ H s) : ∀ (ds : List PyData) (vs : List V) (us : List Value), DpEs X.K H vs ds → Vals vs us → ∃ as, ReadsAll s.heap us ds as ∧ sysModules ∉ as
  | [], _, _, h, r => by cases h; cases r; exact ⟨_, ReadsAll.nil, by simp⟩
  | d :: ds, _, _, h, r => by
    cases h with
    | cons h1 h2 =>
      cases r with
      | cons r1 r2 =>
        obtain ⟨as, q1, n1⟩ := DpE.reads I d _ _ h1 r1
        obtain ⟨bs, q2, n2⟩ := DpE.readsAll I ds _ _ h2 r2
        exact ⟨_, ReadsAll.cons q1 q2, by rw [List.mem_append]; exact fun z => z.elim n1 n2⟩
end
end
def okR (p : Pv) : Prop := (isD p || isE p) = true ∧ (toD p).showable = true ∧ (toD p).depth ≤ 60 ∧ (toD p).shown.length ≤ sizeLine
def oRepr : On := fun ps S Q => match ps with
  | [x] => okR (top S x) ∧ ∀ z, z = (toD (top S x)).shown → Q (.str z) S
  | _ => False
theorem Dp.nodict {K : PySem.W.Frag} : ∀ p : Pv, isD p = true → (toD p).hasDict = false := by
  intro p
  refine Pv.rec (motive_1 := fun p => isD p = true → (toD p).hasDict = false) (motive_2 := fun ps => isDs ps = true → PyData.hasDictAll (toDs ps) = false) ?_ ?_ ?_ ?_ ?_ ?_ ?_ ?_ ?_ ?_ ?_ ?_ p <;> intros <;> simp_all [isD, isDs, toD, toDs, PyData.hasDict, PyData.hasDictAll]
def rRepr (K : PySem.W.Frag) : List V → Hp → VK → Prop := fun xs H Q => ∃ x d, xs = [x] ∧ ((Dp K H x d ∧ d.hasDict = false) ∨ DpE K H x d) ∧ d.showable = true ∧ d.depth ≤ 60 ∧ d.shown.length ≤ sizeLine ∧ Q (.str d.shown) H
theorem call_reprD (hg : X.A.guards = some []) (hu : X.A.units + 64 < cLine) : CallR X (.builtin "repr") (rRepr X.K) := by
  intro pins s σ H xs us Q I r h
  obtain ⟨x, d, rfl, hd, h1, h2, h4, q⟩ := h
  obtain ⟨u, rfl, ru⟩ : ∃ u, us = [u] ∧ RelV x u := by
    cases r with
    | cons r rr => cases rr; exact ⟨_, rfl, r⟩
  have main : ∃ as, Reads s.heap u d as ∧ (d.hasDict = true → sysModules ∉ as) := by
    rcases hd with ⟨hd, h3⟩ | hd
    · obtain ⟨as, rd⟩ := Dp.reads I _ _ _ hd ru
      exact ⟨as, rd, fun e => by rw [h3] at e; cases e⟩
    · obtain ⟨as, rd, hn⟩ := DpE.reads I _ _ _ hd ru
      exact ⟨as, rd, fun _ => hn⟩
  obtain ⟨as, rd, hsm⟩ := main
  have fin : ∀ (a : Addr), u = .ref a → wpAny (model X.prog X.w) X.A (call (.builtin "repr") [u]) (EP X pins σ Q) X.xe s := by
    intro a e
    subst e
    exact repr_of_reads' rd h1 hsm hg (by omega) (fun _ _ e => e) (fun h' u tk hk => ⟨.str _, H, I.kept (t' := tk) hk, ⟨u, rfl⟩, q⟩) h4
  cases rd with
  | none => exact PySem.P.repr_of_none ⟨.str _, H, I.tok _, ⟨_, rfl⟩, by simpa [PyData.shown] using q⟩
  | bool b => exact PySem.P.repr_of_bool ⟨.str _, H, I.tok _, ⟨_, rfl⟩, by simpa [PyData.shown] using q⟩
  | int i t => exact PySem.P.repr_of_int (by simpa [PyData.showable] using h1) ⟨.str _, H, I.tok _, ⟨_, rfl⟩, by simpa [PyData.shown] using q⟩
  | str y t => exact PySem.P.repr_of_str ⟨.str _, H, I.tok _, ⟨_, rfl⟩, by simpa [PyData.shown] using q⟩ (by simpa [PyData.shown] using h4)
  | list => exact fin _ rfl
  | tuple => exact fin _ rfl
  | dict => exact fin _ rfl
theorem pv_repr (hg0 : X.A.guards = some []) (hu : X.A.units + 64 < cLine) (hm : X.mg "repr" = none) (ha : PVs X S0 H0 [a] fs) (hg : Gl X "repr" := by rfl) (he : starEach (a :: []) X.env = (false, eval a X.env) :: starEach [] X.env := by rfl) (hpl : (backTo pos (starEach [] X.env)).any (·.1) = false := by rfl) : PV X S0 H0 (.Call (.Name "repr" p) [a] [] pos) (fN oRepr fs) := by
  refine pv_callB (call_reprD hg0 hu) ⟨fun x S Q Q' h q => ?_, fun x S Qp v H Q rx rs h k => ?_⟩ hg hm (by decide +kernel) ha (by decide) (by decide) he hpl
  · unfold oRepr at q ⊢
    split at q
    · exact ⟨q.1, fun z e => h _ _ (q.2 z e)⟩
    · exact q.elim
  · unfold oRepr at h
    split at h
    · rename_i y
      obtain ⟨v1, rfl, r1⟩ := rx.one
      obtain ⟨⟨h1, h2, h3, h4⟩, h⟩ := h
      refine ⟨v1, _, rfl, ?_, h2, h3, h4, k _ S _ H (h _ rfl) rfl rs (Ext.refl S H)⟩
      cases hd : isD (top S y) with
      | true => exact .inl ⟨dp_top rs r1 hd, Dp.nodict (K := X.K) _ hd⟩
      | false =>
        rw [hd, Bool.false_or] at h1
        right
        cases y with
        | ref a =>
          have e1 : v1 = .ref a := r1
          subst e1
          cases hs : S a with
          | none => simp [top, hs, isE] at h1
          | some m =>
            cases m with
            | lst xs => simp [top, hs, isE] at h1
            | tab n => simp [top, hs, isE] at h1
            | exc C => simp [top, hs, isE] at h1
            | dct ks vs =>
              obtain ⟨kvs, e2, r3, r4⟩ := rs a _ hs
              have h1' : ks = [] ∧ vs = [] := by simpa [top, hs, isE] using h1
              have e3 : kvs = [] := by
                have := r3.len
                rw [h1'.1] at this
                exact List.length_eq_zero_iff.mp (by simpa using this)
              subst e3
              simp only [top, hs, toD]
              exact .dic (.inl e2)
        | _ => exact dpe_of _ _ r1 h1
    · exact h.elim

/-! ### isinstance -/
inductive Tk | non | bl | int | str | tup | lst | dct
def Tk.nm : Tk → String
  | .non => "NoneType" | .bl => "bool" | .int => "int" | .str => "str" | .tup => "tuple" | .lst => "list" | .dct => "dict"
def tyP (S : Sto) : Pv → Option Tk
  | .non => some .non | .bl _ => some .bl | .int _ => some .int | .str _ => some .str | .tup _ => some .tup | .lst _ => some .lst | .scr _ => some .lst | .dct _ _ => some .dct
  | .ref a => match S a with
    | some (.lst _) => some .lst
    | some (.dct _ _) => some .dct
    | _ => none
  | .ty _ => none
def isiT : Tk → Tk → Bool
  | .non, .non => true | .bl, .bl => true | .bl, .int => true | .int, .int => true | .str, .str => true | .tup, .tup => true | .lst, .lst => true | .dct, .dct => true
  | _, _ => false
theorem isiT_ok (t c : Tk) (hc : c = .non → False) : kitB t.nm c.nm = some (isiT t c) := by
  cases t <;> cases c <;> first | exact (hc rfl).elim | decide +kernel
def oIsi (c : Tk) : O1 := fun x S Q => match tyP S x with
  | some t => Q (.bl (isiT t c)) S
  | none => False
theorem tyP_rep {K : PySem.W.Frag} {H : Hp} {S : Sto} (rs : RepS K H S) {x : Pv} {v : V} {t : Tk} (h : RepV K H S x v) (e : tyP S x = some t) : TyX K H v (.type t.nm) := by
  cases x with
  | non => cases e; have e1 : v = _ := h; subst e1; exact .base .non
  | bl b => cases e; have e1 : v = _ := h; subst e1; exact .base (.bl b)
  | int b => cases e; have e1 : v = _ := h; subst e1; exact .base (.int b)
  | str b => cases e; have e1 : v = _ := h; subst e1; exact .base (.str b)
  | tup xs =>
    cases e
    obtain ⟨a, vs, rfl, hq, r⟩ := h
    rcases hq with (hq | ⟨o, hq⟩) | ⟨o, its, n, hk, hc, _⟩
    · exact .base (.tup hq)
    · exact .fTuple hq
    · exact .kTuple hk hc
  | lst xs => cases e; obtain ⟨a, vs, rfl, hq, _, r⟩ := h; exact .base (.lst hq)
  | scr xs =>
    cases e
    obtain ⟨a, vs, rfl, hq, r⟩ := h
    rcases hq with ⟨o, hq⟩ | ((hq | ⟨o, hq⟩) | ⟨o, its, n, hk, hc, _⟩)
    · exact .base (.frz hq)
    · cases hq
    · cases hq
    · exact .kList hk hc
  | dct ks xs =>
    cases e
    obtain ⟨a, kvs, rfl, hq, _⟩ := h
    rcases hq with hq | ⟨o, hq⟩
    · exact .base (.dK hq)
    · exact .fDict hq
  | ref a =>
    have e1 : v = _ := h
    subst e1
    simp only [tyP] at e
    split at e
    · rename_i xs q
      cases e
      obtain ⟨vs, e1, _⟩ := rs a _ q
      exact .base (.lst e1)
    · rename_i xs ys q
      cases e
      obtain ⟨vs, e1, _⟩ := rs a _ q
      exact .base (.dK e1)
    · cases e
  | ty n => cases e
theorem pv_isi (c : Tk) {T : Str} {pt : Pos} (hm : X.mg "isinstance" = none) (hmT : X.mg T = none) (ha : PV X S0 H0 a fa) (hb : bootBuiltins T = some (.type c.nm) := by decide +kernel) (hc : c = .non → False := by exact fun h => nomatch h) (hg : Gl X "isinstance" := by rfl) (hgT : Gl X T := by rfl)
    (hnT : T ≠ "__name__" := by decide) (hdT : (T == ("__debug__" : Str)) = false := by decide)
    (hs1 : starEach [a, .Name T pt] X.env = (false, eval a X.env) :: starEach [.Name T pt] X.env := by rfl) (hs2 : starEach [.Name T pt] X.env = (false, eval (.Name T pt) X.env) :: starEach [] X.env := by rfl)
    (hpl : (backTo pos (starEach [.Name T pt] X.env)).any (·.1) = false := by rfl) : PV X S0 H0 (.Call (.Name "isinstance" p) [a, .Name T pt] [] pos) (f1 (oIsi c) fa) := by
  have s : SimN X.K (rIsi X.K) (fun ps S Q => ∃ x, ps = [x, .ty c.nm] ∧ oIsi c x S Q) := by
    refine ⟨fun x S Q Q' h ⟨y, e, q⟩ => ⟨y, e, ?_⟩, fun x S Qp v H Q rx rs h k => ?_⟩
    · unfold oIsi at q ⊢
      split at q <;> first | exact h _ _ q | exact q.elim
    · obtain ⟨y, rfl, h⟩ := h
      obtain ⟨v1, v2, rfl, r1, r2⟩ := rx.two
      unfold oIsi at h
      split at h
      · rename_i t e
        exact ⟨v1, v2, _, .type c.nm, isiT t c, rfl, by rw [show v2 = _ from r2]; exact .ty _, tyP_rep rs r1 e, kit_ty (isiT_ok t c hc), k _ S _ H h rfl rs (Ext.refl S H)⟩
      · exact h.elim
  have h := pv_callB (pos := pos) (p := p) call_isi s hg hm (by decide +kernel) (pvs_cons ha (pvs_cons (pv_bltn (pos := pt) hgT hmT hb hnT hdT) pvs_nil hs2) hs1) (by decide) (by decide) hs1 hpl
  refine ⟨f1_mono (fun x S Q Q' h q => ?_) ha, PE.imp h.pe fun σ H Q ⟨ρ, S, re, rs, ex, q⟩ => ⟨ρ, S, re, rs, ex, ha.mono _ _ _ _ (fun x S1 q => ⟨x, rfl, q⟩) q⟩⟩
  unfold oIsi at q ⊢
  split at q <;> first | exact h _ _ q | exact q.elim
end
end PL

/-! The pure layer, part 4: targets, what is walked, loops, comprehensions, statements. -/
namespace PL
open PySem PySem.Spec PyProof.Rows L2

/-! ### targets made of names -/
inductive Tg where
  | nm (i : Nat)
  | tp (ts : List Tg)
mutual
def tgR (K : PySem.W.Frag) : Tg → TG
  | .nm i => gName i
  | .tp ts => fun v σ H Q => gTup K ts.length (tgRs K ts) v σ H Q ∨ gUnl K ts.length (tgRs K ts) v σ H Q
def tgRs (K : PySem.W.Frag) : List Tg → TGs
  | [] => gNil
  | t :: ts => gCons (tgR K t) (tgRs K ts)
end
mutual
def bindT (S : Sto) : Tg → Pv → Env' → Option Env'
  | .nm i, p, ρ => some (ρ.set i (some p))
  | .tp ts, p, ρ => (seqP S p).bind fun xs => if xs.length = ts.length then bindTs S ts xs ρ else none
def bindTs (S : Sto) : List Tg → List Pv → Env' → Option Env'
  | [], _, ρ => some ρ
  | t :: ts, [], _ => none
  | t :: ts, x :: xs, ρ => (bindT S t x ρ).bind fun ρ' => bindTs S ts xs ρ'
end
mutual
def slotsT : Tg → List Nat
  | .nm i => [i]
  | .tp ts => slotsTs ts
def slotsTs : List Tg → List Nat
  | [] => []
  | t :: ts => slotsT t ++ slotsTs ts
end
theorem wipe_set {σ : L2.St} {i : Nat} {x : Option V} : ∀ {vs : List Nat}, i ∈ vs → wipe (σ.set i x) vs = wipe σ vs
  | [], h => by simp at h
  | v :: vs, h => by
    show (wipe (σ.set i x) vs).set v none = (wipe σ vs).set v none
    by_cases hv : i ∈ vs
    · rw [wipe_set hv]
    · have e : i = v := by
        rcases List.mem_cons.mp h with e | e
        · exact e
        · exact absurd e hv
      subst e
      have q : ∀ (us : List Nat), i ∉ us → wipe (σ.set i x) us = (wipe σ us).set i x := by
        intro us
        induction us with
        | nil => intro _; rfl
        | cons u us ih =>
          intro hu
          have h1 : i ≠ u := fun e => hu (by rw [e]; exact List.mem_cons_self)
          have h2 : i ∉ us := fun e => hu (List.mem_cons_of_mem _ e)
          show (wipe (σ.set i x) us).set u none = ((wipe σ us).set u none).set i x
          rw [ih h2, List.set_comm _ _ h1]
      rw [q vs hv, List.set_set]
section
variable {K : PySem.W.Frag} {H : Hp} {S : Sto}
mutual
theorem tg_run (rs : RepS K H S) : ∀ (t : Tg) (p : Pv) (v : V) (σ : L2.St) (ρ ρ' : Env') (Q : L2.St → Hp → Prop), RepV K H S p v → RepE K H S σ ρ → bindT S t p ρ = some ρ' →
    (∀ σ', RepE K H S σ' ρ' → (∀ vs : List Nat, (∀ i ∈ slotsT t, i ∈ vs) → wipe σ' vs = wipe σ vs) → Q σ' H) → tgR K t v σ H Q
  | .nm i, p, v, σ, ρ, ρ', Q, rv, re, e, k => by
    have e' : ρ.set i (some p) = ρ' := by simpa [bindT] using e
    subst e'
    exact k _ (re.set i rv) fun vs h => wipe_set (h i (by simp [slotsT]))
  | .tp ts, p, v, σ, ρ, ρ', Q, rv, re, e, k => by
    simp only [bindT, Option.bind_eq_some_iff] at e
    obtain ⟨xs, e0, e⟩ := e
    split at e
    · rename_i hl
      obtain ⟨a, vs, e1, hq, r⟩ := seq_rep rs rv e0
      have hr := tgs_run rs ts xs vs σ ρ ρ' Q hl r re e fun σ' r' w => k σ' r' fun us h => w us (by simpa [slotsT] using h)
      rcases hq with hq | hq
      · exact .inr ⟨a, vs, e1, hq, by rw [r.len]; exact hl, hr⟩
      · exact .inl ⟨a, vs, e1, hq, by rw [r.len]; exact hl, hr⟩
    · cases e
theorem tgs_run (rs : RepS K H S) : ∀ (ts : List Tg) (xs : List Pv) (vs : List V) (σ : L2.St) (ρ ρ' : Env') (Q : L2.St → Hp → Prop), xs.length = ts.length → RepVs K H S xs vs → RepE K H S σ ρ → bindTs S ts xs ρ = some ρ' →
    (∀ σ', RepE K H S σ' ρ' → (∀ us : List Nat, (∀ i ∈ slotsTs ts, i ∈ us) → wipe σ' us = wipe σ us) → Q σ' H) → tgRs K ts vs σ H Q
  | [], [], vs, σ, ρ, ρ', Q, hl, r, re, e, k => by
    have e' : ρ = ρ' := by simpa [bindTs] using e
    subst e'
    exact ⟨r, k σ re fun _ _ => rfl⟩
  | [], x :: xs, vs, σ, ρ, ρ', Q, hl, r, re, e, k => by simp at hl
  | t :: ts, [], vs, σ, ρ, ρ', Q, hl, r, re, e, k => by simp at hl
  | t :: ts, x :: xs, vs, σ, ρ, ρ', Q, hl, ⟨v, r, e1, h1, h2⟩, re, e, k => by
    simp only [bindTs, Option.bind_eq_some_iff] at e
    obtain ⟨ρ1, e2, e3⟩ := e
    refine ⟨v, r, e1, tg_run rs t x v σ ρ ρ1 _ h1 re e2 fun σ1 r1 w1 => ?_⟩
    exact tgs_run rs ts xs r σ1 ρ1 ρ' Q (by simpa using hl) h2 r1 e3 fun σ2 r2 w2 => k σ2 r2 fun us h => by
      rw [w2 us fun i hi => h i (by simp [slotsTs, hi]), w1 us fun i hi => h i (by simp [slotsTs, hi])]
end
end
section
variable {X : Cx} {S0 : Sto} {H0 : Hp} {a b : Expr} {fa fb : PF} {pos : Pos}
theorem PG.or {tg : Expr} {g g' : TG} (h : PG X tg g) (h' : PG X tg g') : PG X tg (fun v σ H Q => g v σ H Q ∨ g' v σ H Q) := ⟨fun pins s σ H v u Q I r q => q.elim (fun q => h.run pins s σ H v u Q I r q) fun q => h'.run pins s σ H v u Q I r q⟩
theorem pgt_name (i : Nat) {x : Str} (hN : X.N.Nodup) (hi : X.N[i]? = some x := by rfl) (hx : Loc X.env.scope x := by first | exact Or.inl rfl | exact Or.inr rfl) (hf : X.fn x = true ∨ X.env.scope.names.lookup x = some .local := by first | exact .inl rfl | exact .inr rfl | assumption) : PG X (.Name x pos) (tgR X.K (.nm i)) := by
  have e : tgR X.K (.nm i) = gName i := by simp [tgR]
  rw [e]
  exact pg_name hN hi hx hf
theorem pgt_nil : PGs X [] (tgRs X.K []) := by
  have e : tgRs X.K [] = gNil := by simp [tgRs]
  rw [e]
  exact pgs_nil
theorem pgt_cons {e : Expr} {es : List Expr} {t : Tg} {ts : List Tg} (h1 : PG X e (tgR X.K t)) (h2 : PGs X es (tgRs X.K ts)) (hs : (assignEach (e :: es) X.env).map (·.2) = assign e X.env :: (assignEach es X.env).map (·.2) := by rfl) : PGs X (e :: es) (tgRs X.K (t :: ts)) := by
  have q : tgRs X.K (t :: ts) = gCons (tgR X.K t) (tgRs X.K ts) := by simp [tgRs]
  rw [q]
  exact pgs_cons h1 h2 hs
theorem pgt_tup {es : List Expr} {k : Nat} {ts : List Tg} (hc : X.calm = true) (h : PGs X es (tgRs X.K ts)) (hn : (assignEach es X.env).length = ts.length := by rfl) (hst : (assignEach es X.env).findIdx? (·.1) = none := by rfl) : PG X (.Tuple es k pos) (tgR X.K (.tp ts)) := by
  have q : tgR X.K (.tp ts) = fun v σ H Q => gTup X.K ts.length (tgRs X.K ts) v σ H Q ∨ gUnl X.K ts.length (tgRs X.K ts) v σ H Q := by funext v σ H Q; simp [tgR]
  rw [q]
  exact PG.or (pg_tup hc h hn hst) (pg_unl hc h hn hst)

/-! ### what is walked -/
structure Wk (K : PySem.W.Frag) (S1 : Sto) (H1 : Hp) (J : It) (its : List Pv) (gd : Sto → Prop) : Prop where
  go : ∀ S H (i : Nat) x, Ext S1 H1 S H → RepS K H S → gd S → its[i]? = some x → J.go i H ∧ ∀ v H', J.yld i H v H' → RepV K H' S x v ∧ RepS K H' S ∧ Ext S H S H'
  stop : ∀ S H, Ext S1 H1 S H → RepS K H S → gd S → J.stop its.length H
abbrev PFI := Env' → Sto → (List Pv → (Sto → Prop) → Sto → Prop) → Prop
def liftI (K : PySem.W.Frag) (S0 : Sto) (H0 : Hp) (f : PFI) : TI := fun σ H R => ∃ ρ S, RepE K H S σ ρ ∧ RepS K H S ∧ Ext S0 H0 S H ∧
  f ρ S fun its gd S' => ∀ J H', Wk K S' H' J its gd → RepS K H' S' → Ext S H S' H' → R J H'
structure PIt (X : Cx) (S0 : Sto) (H0 : Hp) (tg iter : Expr) (f : PFI) : Prop where
  mono : ∀ ρ S Q Q', (∀ p g S', Q p g S' → Q' p g S') → f ρ S Q → f ρ S Q'
  pi : PI X tg iter (liftI X.K S0 H0 f)
theorem PI.imp {tg iter : Expr} {t t' : TI} (h : PI X tg iter t) (i : ∀ σ H R, t' σ H R → t σ H R) : PI X tg iter t' := ⟨fun pins s σ H R I q => h.run pins s σ H R I (i σ H R q)⟩
abbrev tru : Sto → Prop := fun _ => True
def chars (z : Str) : List Pv := z.cps.toList.map fun c => .str ⟨#[c]⟩
def itP (S : Sto) : Pv → Option (List Pv × (Sto → Prop))
  | .tup xs => some (xs, tru)
  | .lst xs => some (xs, tru)
  | .scr xs => some (xs, tru)
  | .str z => some (chars z, tru)
  | .ref a => match S a with
    | some (.lst xs) => some (xs, fun S' => S' a = some (.lst xs))
    | _ => none
  | _ => none
def fIt (f : PF) : PFI := fun ρ S Q => f ρ S fun p S1 => match itP S1 p with
  | some (its, gd) => Q its gd S1
  | none => False
theorem wk_list {K : PySem.W.Frag} {S1 : Sto} {H1 : Hp} {a : Addr} {vs : List V} {its : List Pv} {gd : Sto → Prop} (h : ∀ S H, Ext S1 H1 S H → RepS K H S → gd S → ∃ vs, SqL K H a vs ∧ RepVs K H S its vs ∧ ∀ us, SqL K H a us → us = vs) : Wk K S1 H1 (Itl K a) its gd := by
  refine ⟨fun S H i x e rs g hx => ?_, fun S H e rs g => ?_⟩
  · obtain ⟨vs, hq, r, u⟩ := h S H e rs g
    obtain ⟨v, hv, rv⟩ := r.get hx
    refine ⟨⟨vs, v, hq, hv⟩, fun w H' y => ?_⟩
    obtain ⟨rfl, y⟩ := y
    have e1 := y vs hq
    rw [hv] at e1; cases e1
    exact ⟨rv, rs, Ext.refl S _⟩
  · obtain ⟨vs, hq, r, u⟩ := h S H e rs g
    exact ⟨vs, hq, by rw [r.len]; exact Nat.le_refl _⟩
theorem wk_tup {K : PySem.W.Frag} {S1 : Sto} {H1 : Hp} {a : Addr} {vs : List V} {its : List Pv} (rs1 : RepS K H1 S1) (hq : SqT K H1 a vs) (r : RepVs K H1 S1 its vs) : Wk K S1 H1 (Itt K a) its tru := by
  refine ⟨fun S H i x e rs g hx => ?_, fun S H e rs g => ?_⟩
  · obtain ⟨v, hv, rv⟩ := (RepVs.ext rs1 e _ _ r).get hx
    have hq' := SqT.ext rs1 e hq
    refine ⟨⟨vs, v, hq', hv⟩, fun w H' y => ?_⟩
    obtain ⟨rfl, y⟩ := y
    have e1 := y vs hq'
    rw [hv] at e1; cases e1
    exact ⟨rv, rs, Ext.refl S _⟩
  · exact ⟨vs, SqT.ext rs1 e hq, by rw [r.len]; exact Nat.le_refl _⟩
theorem wk_list' {K : PySem.W.Frag} {S1 : Sto} {H1 : Hp} {a : Addr} {its : List Pv} {gd : Sto → Prop} (h : ∀ S H, Ext S1 H1 S H → RepS K H S → gd S → ∃ vs, SqL K H a vs ∧ RepVs K H S its vs) : Wk K S1 H1 (Itl K a) its gd := by
  refine ⟨fun S H i x e rs g hx => ?_, fun S H e rs g => ?_⟩
  · obtain ⟨vs, hq, r⟩ := h S H e rs g
    obtain ⟨v, hv, rv⟩ := r.get hx
    refine ⟨⟨vs, v, hq, hv⟩, fun w H' y => ?_⟩
    obtain ⟨rfl, y⟩ := y
    have e1 := y vs hq
    rw [hv] at e1; cases e1
    exact ⟨rv, rs, Ext.refl S _⟩
  · obtain ⟨vs, hq, r⟩ := h S H e rs g
    exact ⟨vs, hq, by rw [r.len]; exact Nat.le_refl _⟩
/-- a list of any kind that is read, with what must stay -/
def gdL (S : Sto) (x : Pv) (xs : List Pv) : Sto → Prop := match x with
  | .ref a => fun S' => S' a = some (.lst xs)
  | _ => tru
theorem rdL_stay {K : PySem.W.Frag} {S1 : Sto} {H1 : Hp} {x : Pv} {v : V} {xs : List Pv} (rs1 : RepS K H1 S1) (rx : RepV K H1 S1 x v) (e0 : rdL S1 x = some xs) : ∃ a, v = .ref a ∧ ∀ S H, Ext S1 H1 S H → RepS K H S → gdL S1 x xs S → ∃ vs, SqL K H a vs ∧ RepVs K H S xs vs := by
  cases x with
  | lst ys =>
    have e' : ys = xs := by simpa [rdL] using e0
    subst e'
    obtain ⟨a, vs, e1, h, hs, r⟩ := rx
    exact ⟨a, e1, fun S H e rs g => ⟨vs, .inl (.inl (e.keep _ _ h hs)), RepVs.ext rs1 e _ _ r⟩⟩
  | scr ys =>
    have e' : ys = xs := by simpa [rdL] using e0
    subst e'
    obtain ⟨a, vs, e1, h, r⟩ := rx
    refine ⟨a, e1, fun S H e rs g => ⟨vs, ?_, RepVs.ext rs1 e _ _ r⟩⟩
    rcases h with ⟨o, h⟩ | h
    · exact .inl (.inr ⟨o, e.keep _ _ h (rs1.frz h)⟩)
    · exact sqL_of h
  | ref a =>
    refine ⟨a, rx, fun S H e rs g => ?_⟩
    obtain ⟨vs, h, r⟩ := rs a _ (show S a = some (.lst xs) from g)
    exact ⟨vs, .inl (.inl h), r⟩
  | _ => simp [rdL] at e0
/-- the readings of a value that is walked -/
def rIt (K : PySem.W.Frag) (x : V) (H : Hp) (R : It → Hp → Prop) : Prop :=
  (∃ a, x = .ref a ∧ (∃ xs, SqL K H a xs) ∧ R (Itl K a) H) ∨ (∃ a, x = .ref a ∧ (∃ xs, SqT K H a xs) ∧ R (Itt K a) H) ∨ ∃ z, x = .str z ∧ R (Its z) H
theorem pi_val {tg l : Expr} {tl : TE} (hl : PE X l tl) : PI X tg l (fun σ H R => tl σ H fun x H1 => rIt X.K x H1 R) := by
  refine ⟨fun pins s σ H R I hw => thn (hl.run pins s σ H _ I hw) fun u s1 hq => ?_⟩
  obtain ⟨x, H1, I1, ru, q⟩ := hq
  rcases q with ⟨l', e, ⟨xs, hx⟩, q⟩ | ⟨l', e, ⟨xs, hx⟩, q⟩ | ⟨z, e, q⟩
  · subst e; cases ru
    obtain ⟨vals, _, pl, _⟩ := I1.list hx
    exact wpAny_pyIter_list pl.isList (pi_one (tk := s1.toks) I1 _ (turn_list l' _) ⟨_, Heap.get?_push_size _ rfl, rfl, rfl⟩ q)
  · subst e; cases ru
    obtain ⟨vals, _, pt, _⟩ := I1.tuple hx
    exact wpAny_pyIter_tuple (items := vals.toArray) pt (pi_one (tk := s1.toks) I1 _ (turn_tuple l' _) ⟨_, Heap.get?_push_size _ rfl, rfl, rfl⟩ q)
  · subst e
    obtain ⟨t, rfl⟩ := ru
    by_cases ha : z.cps.all (· < 128) = true
    · exact wpAny_pyIter_ascii ha (pi_one (tk := s1.toks) I1 _ (turn_str _ z t _ (.inl rfl)) ⟨_, Heap.get?_push_size _ rfl, rfl, rfl⟩ q)
    · exact wpAny_pyIter_wide (by simpa using ha) (pi_one (tk := s1.toks) I1 _ (turn_str _ z t _ (.inr rfl)) ⟨_, Heap.get?_push_size _ rfl, rfl, rfl⟩ q)
theorem wk_str {K : PySem.W.Frag} {S1 : Sto} {H1 : Hp} {z : Str} : Wk K S1 H1 (Its z) (chars z) tru := by
  refine ⟨fun S H i x e rs g hx => ?_, fun S H e rs g => ?_⟩
  · unfold chars at hx
    rw [List.getElem?_map, Option.map_eq_some_iff] at hx
    obtain ⟨c, hc, rfl⟩ := hx
    have hc' : z.cps[i]? = some c := by simpa using hc
    refine ⟨(Array.getElem?_eq_some_iff.mp hc').1, fun w H' y => ?_⟩
    obtain ⟨rfl, c', e1, e2⟩ := y
    rw [hc'] at e1; cases e1
    exact ⟨e2, rs, Ext.refl S _⟩
  · show z.cps.size ≤ _
    unfold chars
    simp
theorem pit_val {tg : Expr} (h : PV X S0 H0 a fa) : PIt X S0 H0 tg a (fIt fa) := by
  refine ⟨fun ρ S Q Q' i q => h.mono _ _ _ _ (fun p S1 q => ?_) q, PI.imp (pi_val h.pe) fun σ H R ⟨ρ, S, re, rs, ex, q⟩ => ?_⟩
  · split at q
    · exact i _ _ _ q
    · exact q
  · refine ⟨ρ, S, re, rs, ex, h.mono _ _ _ _ (fun p S1 q v H1 rv rs1 ex1 => ?_) q⟩
    cases p with
    | tup xs =>
      have rv' := rv
      obtain ⟨t, vs, e1, hq, r⟩ := rv
      exact .inr (.inl ⟨t, e1, ⟨vs, hq⟩, q _ H1 (wk_tup rs1 hq r) rs1 ex1⟩)
    | lst xs =>
      obtain ⟨t, e1, k⟩ := rdL_stay (xs := xs) rs1 rv rfl
      obtain ⟨vs, hq, _⟩ := k S1 H1 (Ext.refl _ _) rs1 trivial
      exact .inl ⟨t, e1, ⟨vs, hq⟩, q _ H1 (wk_list' k) rs1 ex1⟩
    | scr xs =>
      obtain ⟨t, e1, k⟩ := rdL_stay (xs := xs) rs1 rv rfl
      obtain ⟨vs, hq, _⟩ := k S1 H1 (Ext.refl _ _) rs1 trivial
      exact .inl ⟨t, e1, ⟨vs, hq⟩, q _ H1 (wk_list' k) rs1 ex1⟩
    | str z => exact .inr (.inr ⟨z, rv, q _ H1 wk_str rs1 ex1⟩)
    | ref b =>
      simp only [itP] at q
      cases hb : S1 b with
      | none => rw [hb] at q; exact q.elim
      | some m =>
        cases m with
        | lst xs =>
          rw [hb] at q
          obtain ⟨t, e1, k⟩ := rdL_stay (xs := xs) rs1 rv (by simp [rdL, hb])
          obtain ⟨vs, hq, _⟩ := k S1 H1 (Ext.refl _ _) rs1 hb
          exact .inl ⟨t, e1, ⟨vs, hq⟩, q _ H1 (wk_list' k) rs1 ex1⟩
        | _ => rw [hb] at q; exact q.elim
    | _ => exact q.elim
def rngP (lo hi : Int) : List Pv := (List.range (hi - lo).toNat).map fun (k : Nat) => .int (lo + k)
theorem wk_rng {K : PySem.W.Frag} {S1 : Sto} {H1 : Hp} {lo hi : Int} : Wk K S1 H1 (Itr lo (hi - lo).toNat) (rngP lo hi) tru := by
  refine ⟨fun S H i x e rs g hx => ?_, fun S H e rs g => ?_⟩
  · unfold rngP at hx
    rw [List.getElem?_map, Option.map_eq_some_iff] at hx
    obtain ⟨c, hc, rfl⟩ := hx
    have hi' : i < (hi - lo).toNat := by
      have := (List.getElem?_eq_some_iff.mp hc).1
      simpa using this
    have e2 : i = c := by simpa [List.getElem?_range hi'] using hc
    subst e2
    refine ⟨hi', fun w H' y => ?_⟩
    obtain ⟨rfl, rfl⟩ := y
    exact ⟨rfl, rs, Ext.refl S _⟩
  · show (hi - lo).toNat ≤ _
    unfold rngP
    simp
def bnd (i : Int) : Prop := -(2 ^ 62) ≤ i ∧ i < 2 ^ 62
def fRng1 (fs : PFs) : PFI := fun ρ S Q => fs ρ S fun ps S1 => match ps with
  | [.int j] => bnd j ∧ Q (rngP 0 j) tru S1
  | _ => False
def fRng2 (fs : PFs) : PFI := fun ρ S Q => fs ρ S fun ps S1 => match ps with
  | [.int i, .int j] => (bnd i ∧ bnd j) ∧ Q (rngP i j) tru S1
  | _ => False
theorem pit_range1 {tg : Expr} {fs : PFs} {p : Pos} (hm : X.mg "range" = none) (ha : PVs X S0 H0 [a] fs) (hg : Gl X "range" := by rfl) (hs : starEach [a] X.env = [(false, eval a X.env)] := by rfl) : PIt X S0 H0 tg (.Call (.Name "range" p) [a] [] pos) (fRng1 fs) := by
  refine ⟨fun ρ S Q Q' i q => ha.mono _ _ _ _ (fun ps S1 q => ?_) q, PI.imp (pi_range1 hg hm ha.pa hs) fun σ H R ⟨ρ, S, re, rs, ex, q⟩ => ?_⟩
  · split at q
    · exact ⟨q.1, i _ _ _ q.2⟩
    · exact q
  · refine ⟨ρ, S, re, rs, ex, ha.mono _ _ _ _ (fun ps S1 q vs H1 rv rs1 ex1 => ?_) q⟩
    split at q
    · rename_i j
      obtain ⟨v, rfl, r⟩ := rv.one
      refine ⟨j, by rw [show v = _ from r], q.1.1, q.1.2, q.2 _ H1 ?_ rs1 ex1⟩
      have w := wk_rng (K := X.K) (S1 := S1) (H1 := H1) (lo := 0) (hi := j)
      rw [Int.sub_zero] at w
      exact w
    · exact q.elim
theorem pit_range2 {tg : Expr} {fs : PFs} {p : Pos} (hm : X.mg "range" = none) (ha : PVs X S0 H0 [a, b] fs) (hg : Gl X "range" := by rfl) (hs : starEach [a, b] X.env = [(false, eval a X.env), (false, eval b X.env)] := by rfl) (hs2 : starEach [b] X.env = [(false, eval b X.env)] := by rfl) : PIt X S0 H0 tg (.Call (.Name "range" p) [a, b] [] pos) (fRng2 fs) := by
  refine ⟨fun ρ S Q Q' i q => ha.mono _ _ _ _ (fun ps S1 q => ?_) q, PI.imp (pi_range2 hg hm ha.pa hs hs2) fun σ H R ⟨ρ, S, re, rs, ex, q⟩ => ?_⟩
  · split at q
    · exact ⟨q.1, i _ _ _ q.2⟩
    · exact q
  · refine ⟨ρ, S, re, rs, ex, ha.mono _ _ _ _ (fun ps S1 q vs H1 rv rs1 ex1 => ?_) q⟩
    split at q
    · rename_i i j
      obtain ⟨v, u, rfl, r, r'⟩ := rv.two
      exact ⟨i, j, by rw [show v = _ from r, show u = _ from r'], ⟨q.1.1.1, q.1.1.2, q.1.2.1, q.1.2.2⟩, q.2 _ H1 wk_rng rs1 ex1⟩
    · exact q.elim
/-- zip of two lists, of two tuples -/
def zipP (xs ys : List Pv) : List Pv := List.zipWith (fun x y => .tup [x, y]) xs ys
theorem zipP_get {xs ys : List Pv} {i : Nat} {z : Pv} (h : (zipP xs ys)[i]? = some z) : ∃ x y, xs[i]? = some x ∧ ys[i]? = some y ∧ z = .tup [x, y] := by
  unfold zipP at h
  rw [List.getElem?_zipWith] at h
  cases hx : xs[i]? with
  | none => rw [hx] at h; simp at h
  | some x =>
    cases hy : ys[i]? with
    | none => rw [hx, hy] at h; simp at h
    | some y => rw [hx, hy] at h; simp at h; exact ⟨x, y, rfl, rfl, h.symm⟩
def fZip (fs : PFs) : PFI := fun ρ S Q => fs ρ S fun ps S1 => match ps with
  | [.tup xs, .tup ys] => Q (zipP xs ys) tru S1
  | [x, y] => (match rdL S1 x, rdL S1 y with
    | some xs, some ys => Q (zipP xs ys) (fun S' => gdL S1 x xs S' ∧ gdL S1 y ys S') S1
    | _, _ => False)
  | _ => False
theorem pair_new {K : PySem.W.Frag} {S : Sto} {H : Hp} {T : Addr} {x y : Pv} {v u : V} (rs : RepS K H S) (nT : H T = none) (rx : RepV K H S x v) (ry : RepV K H S y u) : RepV K (upd H T (.tup [v, u])) S (.tup [x, y]) (.ref T) ∧ RepS K (upd H T (.tup [v, u])) S ∧ Ext S H S (upd H T (.tup [v, u])) :=
  newT_k rs nT ⟨v, [u], rfl, rx, u, [], rfl, ry, rfl⟩
theorem wk_zipT {K : PySem.W.Frag} {S1 : Sto} {H1 : Hp} {a b : Addr} {vs us : List V} {xs ys : List Pv} (rs1 : RepS K H1 S1) (h1 : SqT K H1 a vs) (h2 : SqT K H1 b us) (r1 : RepVs K H1 S1 xs vs) (r2 : RepVs K H1 S1 ys us) : Wk K S1 H1 (RZ.ItzT K a b) (zipP xs ys) tru := by
  refine ⟨fun S H i z e rs g hz => ?_, fun S H e rs g => ?_⟩
  · obtain ⟨x, y, hx, hy, rfl⟩ := zipP_get hz
    obtain ⟨v, hv, rv⟩ := (RepVs.ext rs1 e _ _ r1).get hx
    obtain ⟨u, hu, ru⟩ := (RepVs.ext rs1 e _ _ r2).get hy
    have q1 := SqT.ext rs1 e h1
    have q2 := SqT.ext rs1 e h2
    refine ⟨⟨vs, us, v, u, q1, q2, hv, hu⟩, fun w H' yl => ?_⟩
    obtain ⟨T, x', y', rfl, nT, rfl, f1, f2⟩ := yl
    have e1 := f1 vs q1
    have e2 := f2 us q2
    rw [hv] at e1; cases e1
    rw [hu] at e2; cases e2
    exact pair_new rs nT rv ru
  · refine ⟨vs, us, SqT.ext rs1 e h1, SqT.ext rs1 e h2, ?_⟩
    unfold zipP
    rw [List.length_zipWith, r1.len, r2.len]
    omega
theorem wk_zipL {K : PySem.W.Frag} {S1 : Sto} {H1 : Hp} {a b : Addr} {xs ys : List Pv} {g1 g2 : Sto → Prop} (h1 : ∀ S H, Ext S1 H1 S H → RepS K H S → g1 S → ∃ vs, SqL K H a vs ∧ RepVs K H S xs vs) (h2 : ∀ S H, Ext S1 H1 S H → RepS K H S → g2 S → ∃ vs, SqL K H b vs ∧ RepVs K H S ys vs) :
    Wk K S1 H1 (Itz K a b) (zipP xs ys) (fun S => g1 S ∧ g2 S) := by
  refine ⟨fun S H i z e rs g hz => ?_, fun S H e rs g => ?_⟩
  · obtain ⟨x, y, hx, hy, rfl⟩ := zipP_get hz
    obtain ⟨vs, q1, r1⟩ := h1 S H e rs g.1
    obtain ⟨us, q2, r2⟩ := h2 S H e rs g.2
    obtain ⟨v, hv, rv⟩ := r1.get hx
    obtain ⟨u, hu, ru⟩ := r2.get hy
    refine ⟨⟨vs, us, v, u, q1, q2, hv, hu⟩, fun w H' yl => ?_⟩
    obtain ⟨T, x', y', rfl, nT, rfl, f1, f2⟩ := yl
    have e1 := f1 vs q1
    have e2 := f2 us q2
    rw [hv] at e1; cases e1
    rw [hu] at e2; cases e2
    exact pair_new rs nT rv ru
  · obtain ⟨vs, q1, r1⟩ := h1 S H e rs g.1
    obtain ⟨us, q2, r2⟩ := h2 S H e rs g.2
    refine ⟨vs, us, q1, q2, ?_⟩
    unfold zipP
    rw [List.length_zipWith, r1.len, r2.len]
    omega
theorem pit_zip {elts : List Expr} {kk : Nat} {tpos : Pos} {fs : PFs} {p : Pos} (hm : X.mg "zip" = none) (ha : PVs X S0 H0 [a, b] fs) (hg : Gl X "zip" := by rfl) (hs : starEach [a, b] X.env = (false, eval a X.env) :: starEach [b] X.env := by rfl) (hpl : (backTo pos (starEach [b] X.env)).any (·.1) = false := by rfl) :
    PIt X S0 H0 (.Tuple elts kk tpos) (.Call (.Name "zip" p) [a, b] [] pos) (fZip fs) := by
  refine ⟨fun ρ S Q Q' i q => ha.mono _ _ _ _ (fun ps S1 q => ?_) q, PI.imp (RZ.pi_zipA hg hm ha.pa hs hpl) fun σ H R ⟨ρ, S, re, rs, ex, q⟩ => ?_⟩
  · split at q
    · exact i _ _ _ q
    · split at q
      · exact i _ _ _ q
      · exact q
    · exact q
  · refine ⟨ρ, S, re, rs, ex, ha.mono _ _ _ _ (fun ps S1 q vs H1 rv rs1 ex1 => ?_) q⟩
    split at q
    · obtain ⟨v, u, rfl, r, r'⟩ := rv.two
      obtain ⟨l1, vs1, e1, h1, r1⟩ := r
      obtain ⟨l2, vs2, e2, h2, r2⟩ := r'
      exact ⟨l1, l2, vs1, vs2, by rw [e1, e2], .inr ⟨h1, h2, q _ H1 (wk_zipT rs1 h1 h2 r1 r2) rs1 ex1⟩⟩
    · obtain ⟨v, u, rfl, r, r'⟩ := rv.two
      split at q
      · rename_i xs ys e1 e2
        obtain ⟨l1, w1, k1⟩ := rdL_stay rs1 r e1
        obtain ⟨l2, w2, k2⟩ := rdL_stay rs1 r' e2
        obtain ⟨l1', vs1, w1', h1, _⟩ := rdL_rep rs1 r e1
        obtain ⟨l2', vs2, w2', h2, _⟩ := rdL_rep rs1 r' e2
        rw [w1] at w1'; cases w1'
        rw [w2] at w2'; cases w2'
        exact ⟨l1, l2, vs1, vs2, by rw [w1, w2], .inl ⟨h1, h2, q _ H1 (wk_zipL k1 k2) rs1 ex1⟩⟩
      · exact q.elim
    · exact q.elim
/-- enumerate of a list -/
def enumP (xs : List Pv) : List Pv := xs.mapIdx fun i x => .tup [.int (i : Nat), x]
def fEnum (fs : PFs) : PFI := fun ρ S Q => fs ρ S fun ps S1 => match ps with
  | [x] => (match rdL S1 x with
    | some xs => Q (enumP xs) (gdL S1 x xs) S1
    | none => False)
  | _ => False
theorem pit_enum {elts : List Expr} {kk : Nat} {tpos : Pos} {fs : PFs} {p : Pos} (hm : X.mg "enumerate" = none) (ha : PVs X S0 H0 [a] fs) (hg : Gl X "enumerate" := by rfl) (hs : starEach [a] X.env = [(false, eval a X.env)] := by rfl) :
    PIt X S0 H0 (.Tuple elts kk tpos) (.Call (.Name "enumerate" p) [a] [] pos) (fEnum fs) := by
  refine ⟨fun ρ S Q Q' i q => ha.mono _ _ _ _ (fun ps S1 q => ?_) q, PI.imp (pi_enum hg hm ha.pa hs) fun σ H R ⟨ρ, S, re, rs, ex, q⟩ => ?_⟩
  · split at q
    · split at q
      · exact i _ _ _ q
      · exact q
    · exact q
  · refine ⟨ρ, S, re, rs, ex, ha.mono _ _ _ _ (fun ps S1 q vs H1 rv rs1 ex1 => ?_) q⟩
    split at q
    · obtain ⟨v, rfl, r⟩ := rv.one
      split at q
      · rename_i xs e1
        obtain ⟨l1, w1, k1⟩ := rdL_stay rs1 r e1
        obtain ⟨l1', vs1, w1', h1, _⟩ := rdL_rep rs1 r e1
        rw [w1] at w1'; cases w1'
        refine ⟨l1, vs1, by rw [w1], h1, q _ H1 ⟨fun S H i z e rs g hz => ?_, fun S H e rs g => ?_⟩ rs1 ex1⟩
        · unfold enumP at hz
          rw [List.getElem?_mapIdx, Option.map_eq_some_iff] at hz
          obtain ⟨x, hx, rfl⟩ := hz
          obtain ⟨us, hq, rr⟩ := k1 S H e rs g
          obtain ⟨u, hu, ru⟩ := rr.get hx
          refine ⟨⟨us, u, hq, hu⟩, fun w H' yl => ?_⟩
          obtain ⟨T, x', rfl, nT, rfl, f1⟩ := yl
          have e2 := f1 us hq
          rw [hu] at e2; cases e2
          exact pair_new rs nT rfl ru
        · obtain ⟨us, hq, rr⟩ := k1 S H e rs g
          refine ⟨us, hq, ?_⟩
          unfold enumP
          rw [List.length_mapIdx, rr.len]
          exact Nat.le_refl _
      · exact q.elim
    · exact q.elim

/-! ### statements -/
variable {st : Stmt} {sts : List Stmt} {g g' : PFS}
def gNext : PFS := fun D ρ S => D.nx ρ S
def gSeq (g g' : PFS) : PFS := fun D ρ S => g { D with nx := g' D } ρ S
theorem pzs_nil : PZs X S0 H0 [] gNext := ⟨fun D D' ρ S h q => h.1 _ _ q, PSs.imp pss_nil fun D σ H ⟨ρ, S, re, rs, _, q⟩ => q σ H re rs (Ext.refl S H)⟩
theorem pzs_one (h : PZ X S0 H0 st g) : PZs X S0 H0 [st] g := ⟨h.mono, pss_one h.ps⟩
theorem pzs_cons (h : PZ X S0 H0 st g) (h' : PZs X S0 H0 sts g') : PZs X S0 H0 (st :: sts) (gSeq g g') := by
  refine ⟨fun D D' ρ S l q => h.mono { D with nx := g' D } { D' with nx := g' D' } _ _ ⟨fun r s q => h'.mono _ _ _ _ l q, l.2.1, l.2.2.1, l.2.2.2⟩ q, PSs.imp (pss_cons h.ps h'.pss) fun D σ H ⟨ρ, S, re, rs, ex, q⟩ => ?_⟩
  refine ⟨ρ, S, re, rs, ex, h.mono { lE X.K S H D with nx := g' (lE X.K S H D) } _ _ _ ⟨fun ρ1 S1 q σ1 H1 re1 rs1 ex1 => ?_, fun _ _ q => q, fun _ _ q => q, fun _ _ q => q⟩ q⟩
  exact ⟨ρ1, S1, re1, rs1, ex.trans ex1, h'.mono _ _ _ _ (lE_le ex1) q⟩
theorem pz_pass : PZ X S0 H0 (.Pass pos) gNext := ⟨fun D D' ρ S h q => h.1 _ _ q, PS.imp ps_pass fun D σ H ⟨ρ, S, re, rs, _, q⟩ => q σ H re rs (Ext.refl S H)⟩
def gBreak : PFS := fun D ρ S => D.bk ρ S
def gCont : PFS := fun D ρ S => D.ct ρ S
theorem pz_break : PZ X S0 H0 (.Break pos) gBreak := ⟨fun D D' ρ S h q => h.2.2.1 _ _ q, PS.imp ps_break fun D σ H ⟨ρ, S, re, rs, _, q⟩ => q σ H re rs (Ext.refl S H)⟩
theorem pz_cont : PZ X S0 H0 (.Continue pos) gCont := ⟨fun D D' ρ S h q => h.2.2.2 _ _ q, PS.imp ps_continue fun D σ H ⟨ρ, S, re, rs, _, q⟩ => q σ H re rs (Ext.refl S H)⟩
def gRet (f : PF) : PFS := fun D ρ S => f ρ S D.rt
theorem pz_ret (h : PV X S0 H0 a fa) : PZ X S0 H0 (.Return (some a) pos) (gRet fa) :=
  ⟨fun D D' ρ S l q => h.mono _ _ _ _ l.2.1 q, PS.imp (ps_ret h.pe) fun D σ H q => q⟩
def gRetN : PFS := fun D _ S => D.rt .non S
theorem pz_retN : PZ X S0 H0 (.Return none pos) gRetN := ⟨fun D D' ρ S l q => l.2.1 _ _ q, PS.imp ps_retN fun D σ H ⟨ρ, S, re, rs, _, q⟩ => q .non H rfl rs (Ext.refl S H)⟩
def gDrop (f : PF) : PFS := fun D ρ S => f ρ S fun _ S1 => D.nx ρ S1
theorem pz_expr (h : PV X S0 H0 a fa) (hs : swapsWith a none pos.line X.env = pure false := by rfl) : PZ X S0 H0 (.Expr a pos) (gDrop fa) := by
  refine ⟨fun D D' ρ S l q => h.mono _ _ _ _ (fun _ _ q => l.1 _ _ q) q, PS.imp (ps_expr h.pe hs) fun D σ H ⟨ρ, S, re, rs, ex, q⟩ => ?_⟩
  exact ⟨ρ, S, re, rs, ex, h.mono _ _ _ _ (fun p S1 q v H1 rv rs1 ex1 => q σ H1 (re.ext rs ex1) rs1 ex1) q⟩
def gIf (c : PFB) (g g' : PFS) : PFS := fun D ρ S => c ρ S fun b S1 => cnd b (g D ρ S1) (g' D ρ S1)
theorem pz_if {c : Expr} {fc : PFB} {s1 s2 : List Stmt} (hc : PB X S0 H0 c fc) (h : PZs X S0 H0 s1 g) (h' : PZs X S0 H0 s2 g') : PZ X S0 H0 (.If c s1 s2 pos) (gIf fc g g') := by
  refine ⟨fun D D' ρ S l q => hc.mono _ _ _ _ (fun b S1 q => ?_) q, PS.imp (ps_if hc.pt h.pss h'.pss) fun D σ H ⟨ρ, S, re, rs, ex, q⟩ => ?_⟩
  · cases b with
    | true => exact h.mono _ _ _ _ l q
    | false => exact h'.mono _ _ _ _ l q
  · refine ⟨ρ, S, re, rs, ex, hc.mono _ _ _ _ (fun b S1 q H1 rs1 ex1 => ?_) q⟩
    cases b with
    | true => exact ⟨ρ, S1, re.ext rs ex1, rs1, ex.trans ex1, h.mono _ _ _ _ (lE_le ex1) q⟩
    | false => exact ⟨ρ, S1, re.ext rs ex1, rs1, ex.trans ex1, h'.mono _ _ _ _ (lE_le ex1) q⟩
def gSet (i : Nat) (f : PF) : PFS := fun D ρ S => f ρ S fun p S1 => D.nx (ρ.set i (some p)) S1
theorem pz_set (i : Nat) {x : Str} {pos' : Pos} (hN : X.N.Nodup) (h : PV X S0 H0 a fa) (hi : X.N[i]? = some x := by rfl) (hx : Loc X.env.scope x := by first | exact Or.inl rfl | exact Or.inr rfl) (hs : swapsWith a (some (.Name x pos')) pos.line X.env = pure false := by rfl)
    (hf : X.fn x = true ∨ X.env.scope.names.lookup x = some .local := by first | exact .inl rfl | exact .inr rfl | assumption) : PZ X S0 H0 (.Assign [.Name x pos'] a pos) (gSet i fa) := by
  refine ⟨fun D D' ρ S l q => h.mono _ _ _ _ (fun _ _ q => l.1 _ _ q) q, PS.imp (ps_set hN hi hx h.pe hs hf) fun D σ H ⟨ρ, S, re, rs, ex, q⟩ => ?_⟩
  exact ⟨ρ, S, re, rs, ex, h.mono _ _ _ _ (fun p S1 q v H1 rv rs1 ex1 => q _ H1 ((re.ext rs ex1).set i rv) rs1 ex1) q⟩
/-- a, b = .. (targets of names) -/
def gTgt (t : Tg) (f : PF) : PFS := fun D ρ S => f ρ S fun p S1 => match bindT S1 t p ρ with
  | some ρ' => D.nx ρ' S1
  | none => False
theorem pz_tgt {t : Tg} {tg : Expr} (h : PV X S0 H0 a fa) (hg : PG X tg (tgR X.K t)) (hs : swapsWithSole [tg] a pos.line X.env = pure false := by rfl) (hw : swappedStores [tg] a X.env = pure none := by rfl)
    (h1 : (assignEach [tg] X.env).map (·.2) = [assign tg X.env] := by rfl) : PZ X S0 H0 (.Assign [tg] a pos) (gTgt t fa) := by
  refine ⟨fun D D' ρ S l q => h.mono _ _ _ _ (fun _ _ q => ?_) q, PS.imp (ps_asg h.pe hg hs hw h1) fun D σ H ⟨ρ, S, re, rs, ex, q⟩ => ?_⟩
  · split at q
    · exact l.1 _ _ q
    · exact q
  · refine ⟨ρ, S, re, rs, ex, h.mono _ _ _ _ (fun p S1 q v H1 rv rs1 ex1 => ?_) q⟩
    split at q
    · rename_i ρ' e
      exact tg_run rs1 t p v σ ρ ρ' _ rv (re.ext rs ex1) e fun σ' r' _ => q σ' H1 r' rs1 ex1
    · exact q.elim
/-- a, b = x, y with plain locals (stored from the right) -/
def gPar (i j : Nat) (fs : PFs) : PFS := fun D ρ S => fs ρ S fun ps S1 => match ps with
  | [p, q] => D.nx ((ρ.set i (some p)).set j (some q)) S1
  | _ => False
theorem pz_par (i j : Nat) {x y : Str} {fs : PFs} {px py pt pt2 : Pos} {kt k2 : Nat} (hc : X.calm = true) (hN : X.N.Nodup) (hv : PVs X S0 H0 [a, b] fs) (hi : X.N[i]? = some x := by rfl) (hj : X.N[j]? = some y := by rfl) (hij : i ≠ j := by decide) (hx : X.env.scope.names.lookup x = some .local := by rfl) (hy : X.env.scope.names.lookup y = some .local := by rfl)
    (hw : swappedStores [.Tuple [.Name x px, .Name y py] kt pt] (.Tuple [a, b] k2 pt2) X.env = pure (some [x, y]) := by rfl) (hs : swapsWithSole [.Tuple [.Name x px, .Name y py] kt pt] (.Tuple [a, b] k2 pt2) pos.line X.env = pure false := by rfl) :
    PZ X S0 H0 (.Assign [.Tuple [.Name x px, .Name y py] kt pt] (.Tuple [a, b] k2 pt2) pos) (gPar i j fs) := by
  refine ⟨fun D D' ρ S l q => hv.mono _ _ _ _ (fun ps S1 q => ?_) q, PS.imp (ps_par hc hN hi hj hij hx hy hv.pa hw hs) fun D σ H ⟨ρ, S, re, rs, ex, q⟩ => ?_⟩
  · split at q
    · exact l.1 _ _ q
    · exact q
  · refine ⟨ρ, S, re, rs, ex, hv.mono _ _ _ _ (fun ps S1 q vs H1 rv rs1 ex1 => ?_) q⟩
    split at q
    · obtain ⟨v, u, rfl, r, r'⟩ := rv.two
      exact ⟨v, u, rfl, q _ H1 (((re.ext rs ex1).set i r).set j r') rs1 ex1⟩
    · exact q.elim
def gPar3 (i j l : Nat) (fs : PFs) : PFS := fun D ρ S => fs ρ S fun ps S1 => match ps with
  | [p, q, r] => D.nx (((ρ.set i (some p)).set j (some q)).set l (some r)) S1
  | _ => False

/-! ### for, while -/
def forW (gd : Sto → Prop) (t : Tg) (b : PFS) (D : Ends') : List Pv → Env' → Sto → Prop
  | [], ρ, S => gd S ∧ D.nx ρ S
  | x :: xs, ρ, S => gd S ∧ match bindT S t x ρ with
    | some ρ' => b { nx := forW gd t b D xs, rt := D.rt, bk := D.nx, ct := forW gd t b D xs } ρ' S
    | none => False
def gFor (fi : PFI) (t : Tg) (b : PFS) : PFS := fun D ρ S => fi ρ S fun its gd S1 => forW gd t b D its ρ S1
theorem forW_mono {gd : Sto → Prop} {t : Tg} {b : PFS} (hb : ∀ D D' ρ S, Ends'.le D D' → b D ρ S → b D' ρ S) {D D' : Ends'} (l : D.le D') : ∀ (its : List Pv) (ρ : Env') (S : Sto), forW gd t b D its ρ S → forW gd t b D' its ρ S
  | [], ρ, S, q => ⟨q.1, l.1 _ _ q.2⟩
  | x :: xs, ρ, S, q => by
    refine ⟨q.1, ?_⟩
    have q2 := q.2
    split at q2
    · exact hb { nx := forW gd t b D xs, rt := D.rt, bk := D.nx, ct := forW gd t b D xs } _ _ _ ⟨fun r s q => forW_mono hb l xs r s q, l.2.1, l.1, fun r s q => forW_mono hb l xs r s q⟩ q2
    · exact q2.elim
theorem pz_for {tg iter : Expr} {fi : PFI} {t : Tg} (hp : PassesOwn (model X.prog X.w) X.A X.env X.xe) (hc : X.calm = true) (hi : PIt X S0 H0 tg iter fi) (hg : PG X tg (tgR X.K t)) (hb : PZs X S0 H0 sts g)
    (hs : ∀ x, foldedSetIterable iter X.env x = pure x := by intro _; rfl) : PZ X S0 H0 (.For tg iter sts [] pos) (gFor fi t g) := by
  refine ⟨fun D D' ρ S l q => hi.mono _ _ _ _ (fun its gd S1 q => forW_mono hb.mono l its ρ S1 q) q, PS.imp (ps_for hp hc hi.pi hg hb.pss hs) fun D σ H ⟨ρ, S, re, rs, ex, q⟩ => ?_⟩
  refine ⟨ρ, S, re, rs, ex, hi.mono _ _ _ _ (fun its gd S1 q J H1 w rs1 ex1 => ?_) q⟩
  let D' : Ends' := lE X.K S H D
  have q' : forW gd t g D' its ρ S1 := q
  refine ⟨fun i m σ2 H2 => i + m = its.length ∧ ∃ ρ2 S2, RepE X.K H2 S2 σ2 ρ2 ∧ RepS X.K H2 S2 ∧ Ext S1 H1 S2 H2 ∧ forW gd t g D' (its.drop i) ρ2 S2, ⟨its.length, by omega, ρ, S1, re.ext rs ex1, rs1, Ext.refl _ _, by rw [List.drop_zero]; exact q'⟩, fun i m σ2 H2 hW => ?_⟩
  obtain ⟨em, ρ2, S2, re2, rs2, ex2, q2⟩ := hW
  cases hd : its.drop i with
  | nil =>
    rw [hd] at q2
    have hil : its.length ≤ i := by
      have := congrArg List.length hd
      simp at this
      omega
    have e0 : i = its.length := by omega
    subst e0
    exact .inl ⟨w.stop S2 H2 ex2 rs2 q2.1, q2.2 σ2 H2 re2 rs2 (ex1.trans ex2)⟩
  | cons x xs =>
    rw [hd] at q2
    have hil : i < its.length := by
      have := congrArg List.length hd
      simp at this
      omega
    have hx : its[i]? = some x := by
      have := congrArg (fun l => l[0]?) hd
      simpa using this
    have hxs : its.drop (i + 1) = xs := by
      have := congrArg (List.drop 1) hd
      simpa [Nat.add_comm] using this
    obtain ⟨hgo, hy⟩ := w.go S2 H2 i x ex2 rs2 q2.1 hx
    refine .inr ⟨hgo, fun σ3 H3 => ∃ ρ3 S3, RepE X.K H3 S3 σ3 ρ3 ∧ RepS X.K H3 S3 ∧ Ext S1 H1 S3 H3 ∧ forW gd t g D' xs ρ3 S3, fun σ3 H3 ⟨ρ3, S3, a1, a2, a3, a4⟩ => ⟨m - 1, by omega, by omega, ρ3, S3, a1, a2, a3, by rw [hxs]; exact a4⟩, fun v H3 yl => ?_⟩
    obtain ⟨rv, rs3, ex3⟩ := hy v H3 yl
    have q3 := q2.2
    split at q3
    · rename_i ρ' eb
      refine tg_run rs3 t x v σ2 ρ2 ρ' _ rv (re2.ext rs2 ex3) eb fun σ4 re4 _ => ?_
      have e23 := ex2.trans ex3
      have e03 := (ex.trans ex1).trans e23
      refine ⟨ρ', S2, re4, rs3, e03, hb.mono { nx := forW gd t g D' xs, rt := D'.rt, bk := D'.nx, ct := forW gd t g D' xs } _ _ _ ⟨?_, ?_, ?_, ?_⟩ q3⟩
      · exact fun ρ5 S5 q5 σ5 H5 a1 a2 a3 => ⟨ρ5, S5, a1, a2, e23.trans a3, q5⟩
      · exact fun p S5 q5 v5 H5 a1 a2 a3 => q5 v5 H5 a1 a2 ((ex1.trans e23).trans a3)
      · exact fun ρ5 S5 q5 σ5 H5 a1 a2 a3 => q5 σ5 H5 a1 a2 ((ex1.trans e23).trans a3)
      · exact fun ρ5 S5 q5 σ5 H5 a1 a2 a3 => ⟨ρ5, S5, a1, a2, e23.trans a3, q5⟩
    · exact q3.elim
def gWhile (c : PFB) (b : PFS) : PFS := fun D ρ S => ∃ (I : Nat → Env' → Sto → Prop), (∃ m, I m ρ S) ∧ ∀ m ρ S, I m ρ S → c ρ S fun k S1 =>
  cnd k (b { nx := fun ρ' S' => ∃ m', m' < m ∧ I m' ρ' S', rt := D.rt, bk := D.nx, ct := fun ρ' S' => ∃ m', m' < m ∧ I m' ρ' S' } ρ S1) (D.nx ρ S1)
theorem pz_while {c : Expr} {fc : PFB} (hp : PassesOwn (model X.prog X.w) X.A X.env X.xe) (hc : PB X S0 H0 c fc) (hb : PZs X S0 H0 sts g) : PZ X S0 H0 (.While c sts [] pos) (gWhile fc g) := by
  refine ⟨fun D D' ρ S l ⟨I, h0, q⟩ => ⟨I, h0, fun m ρ S h => hc.mono _ _ _ _ (fun k S1 q => ?_) (q m ρ S h)⟩, PS.imp (ps_while hp hc.pt hb.pss) fun D σ H ⟨ρ, S, re, rs, ex, I, ⟨m0, h0⟩, q⟩ => ?_⟩
  · cases k with
    | true => exact hb.mono { nx := fun ρ' S' => ∃ m', m' < m ∧ I m' ρ' S', rt := D.rt, bk := D.nx, ct := fun ρ' S' => ∃ m', m' < m ∧ I m' ρ' S' } _ _ _ ⟨fun _ _ q => q, l.2.1, l.1, fun _ _ q => q⟩ q
    | false => exact l.1 _ _ q
  · refine ⟨fun m σ2 H2 => ∃ ρ2 S2, RepE X.K H2 S2 σ2 ρ2 ∧ RepS X.K H2 S2 ∧ Ext S H S2 H2 ∧ I m ρ2 S2, ⟨m0, ρ, S, re, rs, Ext.refl _ _, h0⟩, fun m σ2 H2 ⟨ρ2, S2, re2, rs2, ex2, hI⟩ => ?_⟩
    refine ⟨ρ2, S2, re2, rs2, ex.trans ex2, hc.mono _ _ _ _ (fun k S3 q H3 rs3 ex3 => ?_) (q m ρ2 S2 hI)⟩
    have e3 := ex2.trans ex3
    cases k with
    | true =>
      refine ⟨fun σ4 H4 => ∃ m', m' < m ∧ ∃ ρ2 S2, RepE X.K H4 S2 σ4 ρ2 ∧ RepS X.K H4 S2 ∧ Ext S H S2 H4 ∧ I m' ρ2 S2, fun σ4 H4 h => h, ?_⟩
      refine ⟨ρ2, S3, re2.ext rs2 ex3, rs3, ex.trans e3, hb.mono { nx := fun ρ' S' => ∃ m', m' < m ∧ I m' ρ' S', rt := (lE X.K S H D).rt, bk := (lE X.K S H D).nx, ct := fun ρ' S' => ∃ m', m' < m ∧ I m' ρ' S' } _ _ _ ⟨?_, ?_, ?_, ?_⟩ q⟩
      · exact fun ρ5 S5 ⟨m', hm, q5⟩ σ5 H5 a1 a2 a3 => ⟨m', hm, ρ5, S5, a1, a2, e3.trans a3, q5⟩
      · exact fun p S5 q5 v5 H5 a1 a2 a3 => q5 v5 H5 a1 a2 (e3.trans a3)
      · exact fun ρ5 S5 q5 σ5 H5 a1 a2 a3 => q5 σ5 H5 a1 a2 (e3.trans a3)
      · exact fun ρ5 S5 ⟨m', hm, q5⟩ σ5 H5 a1 a2 a3 => ⟨m', hm, ρ5, S5, a1, a2, e3.trans a3, q5⟩
    | false => exact q σ2 H3 (re2.ext rs2 ex3) rs3 e3

/-! ### list comprehensions -/
def wipeP (ρ : Env') : List Nat → Env'
  | [] => ρ
  | v :: vs => (wipeP ρ vs).set v none
theorem RepE.wipe {K : PySem.W.Frag} {H : Hp} {S : Sto} {σ : L2.St} {ρ : Env'} (r : RepE K H S σ ρ) : ∀ vs : List Nat, RepE K H S (L2.wipe σ vs) (wipeP ρ vs)
  | [] => r
  | v :: vs => by
    have ih := RepE.wipe r vs
    refine ⟨by show ((L2.wipe σ vs).set v none).length = ((wipeP ρ vs).set v none).length; rw [List.length_set, List.length_set]; exact ih.1, fun i p h => ?_⟩
    have h' : ((wipeP ρ vs).set v none)[i]? = some (some p) := h
    show ∃ w, ((L2.wipe σ vs).set v none)[i]? = some (some w) ∧ _
    by_cases hi : v = i
    · subst hi
      rw [List.getElem?_set] at h'
      simp only [if_true] at h'
      split at h' <;> cases h'
    · rw [List.getElem?_set_ne hi] at h'
      obtain ⟨w, a1, a2⟩ := ih.2 i p h'
      exact ⟨w, by rw [List.getElem?_set_ne hi]; exact a1, a2⟩
def lcW (gd : Sto → Prop) (t : Tg) (tt : PFB) (te : PF) (ρ : Env') (D : Addr) (Q : List Pv → Sto → Prop) : List Pv → List Pv → Sto → Prop
  | [], acc, S => gd (put S D (.lst acc)) ∧ Q acc S
  | x :: xs, acc, S => gd (put S D (.lst acc)) ∧ match bindT (put S D (.lst acc)) t x ρ with
    | some ρ2 => tt ρ2 (put S D (.lst acc)) fun c S2 =>
        cnd c (te ρ2 S2 fun y S3 => S3 D = some (.lst acc) ∧ acc.length < sizeLine ∧ lcW gd t tt te ρ D Q xs (acc ++ [y]) (del S3 D))
          (S2 D = some (.lst acc) ∧ lcW gd t tt te ρ D Q xs acc (del S2 D))
    | none => False
def fLc (fi : PFI) (t : Tg) (tt : PFB) (te : PF) (vs : List Nat) : PF := fun ρ S Q => fi ρ S fun its gd S1 => ∀ D, S1 D = none → lcW gd t tt te (wipeP ρ vs) D (fun acc S' => Q (.lst acc) S') its [] S1
/-- .. the list is to be changed -/
def fLcT (fi : PFI) (t : Tg) (tt : PFB) (te : PF) (vs : List Nat) : PF := fun ρ S Q => fi ρ S fun its gd S1 => ∀ D, S1 D = none → lcW gd t tt te (wipeP ρ vs) D (fun acc S' => Q (.ref D) (put S' D (.lst acc))) its [] S1
def fYes : PFB := fun _ S Q => Q true S
theorem lcW_mono {gd : Sto → Prop} {t : Tg} {tt : PFB} {te : PF} {ρ : Env'} {D : Addr} (h1 : ∀ ρ S Q Q', (∀ p S', Q p S' → Q' p S') → tt ρ S Q → tt ρ S Q') (h2 : ∀ ρ S Q Q', (∀ p S', Q p S' → Q' p S') → te ρ S Q → te ρ S Q') {Q Q' : List Pv → Sto → Prop} (i : ∀ p S', Q p S' → Q' p S') :
    ∀ (its acc : List Pv) (S : Sto), lcW gd t tt te ρ D Q its acc S → lcW gd t tt te ρ D Q' its acc S
  | [], acc, S, q => ⟨q.1, i _ _ q.2⟩
  | x :: xs, acc, S, q => by
    refine ⟨q.1, ?_⟩
    have q2 := q.2
    split at q2
    · refine h1 _ _ _ _ (fun c S2 q => ?_) q2
      cases c with
      | true => exact h2 _ _ _ _ (fun y S3 q => ⟨q.1, q.2.1, lcW_mono h1 h2 i xs _ _ q.2.2⟩) q
      | false => exact ⟨q.1, lcW_mono h1 h2 i xs _ _ q.2⟩
    · exact q2.elim
/-- a test list of a comprehension -/
structure PBs (X : Cx) (S0 : Sto) (H0 : Hp) (ifs : List Expr) (f : PFB) : Prop where
  mono : ∀ ρ S Q Q', (∀ p S', Q p S' → Q' p S') → f ρ S Q → f ρ S Q'
  pts : PTs X ifs (liftB X.K S0 H0 f)
theorem pbs_nil : PBs X S0 H0 [] fYes := ⟨fun _ _ _ _ h q => h _ _ q, ⟨fun pins s σ H Q I ⟨ρ, S, re, rs, ex, q⟩ => pts_nil.run pins s σ H Q I (q H rs (Ext.refl S H))⟩⟩
theorem pbs_one {c : Expr} {fc : PFB} (h : PB X S0 H0 c fc) : PBs X S0 H0 [c] fc := ⟨h.mono, pts_one h.pt⟩
end
section
variable {K : PySem.W.Frag} {H H' : Hp} {S S' : Sto} {D : Addr}
/-! more in the heap or less in the store -/
mutual
theorem RepV.less (hh : ∀ a o, H a = some o → S a = none → H' a = some o ∧ S' a = none) (ht : ∀ a vs, SqT K H a vs → SqT K H' a vs) (hf : ∀ a o u, H a = some (.frz o u) → H' a = some (.frz o u)) : ∀ (p : Pv) (v : V), RepV K H S p v → RepV K H' S' p v
  | .non, _, h => h
  | .bl _, _, h => h
  | .int _, _, h => h
  | .str _, _, h => h
  | .tup ps, _, ⟨a, vs, e1, h, r⟩ => ⟨a, vs, e1, ht _ _ h, RepVs.less hh ht hf ps vs r⟩
  | .lst ps, _, ⟨a, vs, e1, h, hs, r⟩ => ⟨a, vs, e1, (hh _ _ h hs).1, (hh _ _ h hs).2, RepVs.less hh ht hf ps vs r⟩
  | .dct ks ps, _, ⟨a, kvs, e1, h, hs, r1, r2⟩ => ⟨a, kvs, e1, h.elim (fun h => .inl (hh _ _ h hs).1) (fun ⟨o, h⟩ => .inr ⟨o, hf _ _ _ h⟩), h.elim (fun h => (hh _ _ h hs).2) (fun ⟨o, h⟩ => (hh _ _ h hs).2), RepVs.less hh ht hf ks _ r1, RepVs.less hh ht hf ps _ r2⟩
  | .ref _, _, h => h
  | .ty _, _, h => h
  | .scr ps, _, ⟨a, vs, e1, h, r⟩ => ⟨a, vs, e1, h.elim (fun ⟨o, z⟩ => .inl ⟨o, hf _ _ _ z⟩) .inr, RepVs.less hh ht hf ps vs r⟩
theorem RepVs.less (hh : ∀ a o, H a = some o → S a = none → H' a = some o ∧ S' a = none) (ht : ∀ a vs, SqT K H a vs → SqT K H' a vs) (hf : ∀ a o u, H a = some (.frz o u) → H' a = some (.frz o u)) : ∀ (ps : List Pv) (vs : List V), RepVs K H S ps vs → RepVs K H' S' ps vs
  | [], _, h => h
  | p :: ps, _, ⟨v, r, e1, h1, h2⟩ => ⟨v, r, e1, RepV.less hh ht hf p v h1, RepVs.less hh ht hf ps r h2⟩
end
/-- a smaller store -/
def Sub (S' S : Sto) : Prop := ∀ a m, S' a = some m → S a = some m
theorem Sub.free (h : Sub S' S) {a : Addr} (e : S a = none) : S' a = none := by
  cases q : S' a with
  | none => rfl
  | some m => rw [h a m q] at e; cases e
theorem RepV.sub (h : Sub S' S) {p : Pv} {v : V} (r : RepV K H S p v) : RepV K H S' p v := RepV.less (fun a o e f => ⟨e, h.free f⟩) (fun _ _ q => q) (fun _ _ _ q => q) p v r
theorem RepVs.sub (h : Sub S' S) {p : List Pv} {v : List V} (r : RepVs K H S p v) : RepVs K H S' p v := RepVs.less (fun a o e f => ⟨e, h.free f⟩) (fun _ _ q => q) (fun _ _ _ q => q) p v r
theorem RepS.sub (h : Sub S' S) (r : RepS K H S) : RepS K H S' := fun a m e => by
  have q := r a m (h a m e)
  cases m with
  | lst xs => obtain ⟨vs, e1, r1⟩ := q; exact ⟨vs, e1, r1.sub h⟩
  | dct ks xs => obtain ⟨vs, e1, r1, r2⟩ := q; exact ⟨vs, e1, r1.sub h, r2.sub h⟩
  | tab n => exact q
  | exc C => exact q
theorem RepE.sub {σ : L2.St} {ρ : Env'} (h : Sub S' S) (r : RepE K H S σ ρ) : RepE K H S' σ ρ := ⟨r.1, fun i p e => let ⟨v, a1, a2⟩ := r.2 i p e; ⟨v, a1, a2.sub h⟩⟩
theorem Ext.sub {S0 : Sto} {H0 : Hp} (h : Sub S' S) (e : Ext S0 H0 S H) : Ext S0 H0 S' H := ⟨e.keep, fun a n => e.new a fun z => n (h.free z)⟩
theorem Sub.refl (S : Sto) : Sub S S := fun _ _ h => h
theorem Sub.trans {S1 S2 S3 : Sto} (a : Sub S1 S2) (b : Sub S2 S3) : Sub S1 S3 := fun x m h => b x m (a x m h)
theorem Sub.put {m : Mo} (h : S D = none) : Sub S (put S D m) := fun a o e => by
  rw [put_ne (by rintro rfl; rw [h] at e; cases e)]; exact e
theorem Sub.put2 {a : Addr} {m : Mo} (h : Sub S' S) : Sub (PL.put S' a m) (PL.put S a m) := fun b o e => by
  by_cases z : b = a
  · subst z; simpa using e
  · rw [put_ne z] at e ⊢; exact h b o e
theorem Sub.del : Sub (del S D) S := fun a m e => by
  by_cases z : a = D
  · subst z; simp at e
  · rw [del_ne z] at e; exact e
theorem put_del {m : Mo} : put (PL.del S D) D m = put S D m := by
  funext b; simp only [put, PL.del]; split <;> rfl
theorem put_self {m : Mo} (h : S D = some m) : put S D m = S := by
  funext b; simp only [put]; split
  · rename_i e; rw [e, h]
  · rfl
/-- the object at D is changed -/
theorem Ext.chg {m m' : Mo} {o : HO} (h : S D = some m) : Ext S H (put S D m') (upd H D o) :=
  ⟨fun a u ha hs => by rw [upd_ne (by rintro rfl; rw [h] at hs; cases hs)]; exact ha, fun a ha => by
    by_cases e : a = D
    · subst e; exact .inl (by rw [h]; simp)
    · rw [put_ne e] at ha; exact .inl ha⟩
theorem RepS.chg {m : Mo} {xs : List Pv} {vs : List V} (rs : RepS K H S) (h : S D = some m) (r : RepVs K H S xs vs) : RepS K (upd H D (.lst vs)) (put S D (.lst xs)) := fun a m' ha => by
  have e := Ext.chg (H := H) (m' := .lst xs) (o := .lst vs) h
  by_cases z : a = D
  · subst z
    rw [put_same] at ha; cases ha
    exact ⟨vs, upd_same, RepVs.ext rs e _ _ r⟩
  · rw [put_ne z] at ha
    have q := rs a m' ha
    cases m' with
    | lst ys => obtain ⟨us, e1, r⟩ := q; exact ⟨us, by rw [upd_ne z]; exact e1, RepVs.ext rs e _ _ r⟩
    | dct ks ys => obtain ⟨us, e1, r, r'⟩ := q; exact ⟨us, by rw [upd_ne z]; exact e1, RepVs.ext rs e _ _ r, RepVs.ext rs e _ _ r'⟩
    | tab n => exact tab_ext rs e q (by rw [upd_ne z])
    | exc C => obtain ⟨oe, e1, r⟩ := q; exact ⟨oe, by rw [upd_ne z]; exact e1, r⟩
end
theorem wipe_wipe (σ : L2.St) : ∀ (us vs : List Nat), (∀ i ∈ vs, i ∈ us) → wipe (wipe σ vs) us = wipe σ us
  | us, [], _ => rfl
  | us, v :: vs, h => by
    show wipe ((wipe σ vs).set v none) us = _
    rw [wipe_set (h v List.mem_cons_self)]
    exact wipe_wipe σ us vs fun i hi => h i (List.mem_cons_of_mem _ hi)
section
variable {X : Cx} {S0 : Sto} {H0 : Hp} {a b : Expr} {fa fb : PF} {pos : Pos}
theorem lc_sim {fi : PFI} {t : Tg} {tt : PFB} {te : PF} {vs : List Nat} {tg iter : Expr} (hi : PIt X S0 H0 tg iter fi) (hv : ∀ i ∈ slotsT t, i ∈ vs) (m1 : ∀ ρ S Q Q', (∀ p S', Q p S' → Q' p S') → tt ρ S Q → tt ρ S Q') (m2 : ∀ ρ S Q Q', (∀ p S', Q p S' → Q' p S') → te ρ S Q → te ρ S Q')
    {σ : L2.St} {H : Hp} {Q : VK} {ρ : Env'} {S : Sto} {F : Addr → List Pv → Sto → Prop} (re : RepE X.K H S σ ρ) (rs : RepS X.K H S) (ex : Ext S0 H0 S H) (q : fi ρ S fun its gd S1 => ∀ D, S1 D = none → lcW gd t tt te (wipeP ρ vs) D (F D) its [] S1)
    (fin : ∀ D acc S' H', F D acc S' → S' D = none → RepS X.K H' (put S' D (.lst acc)) → Ext S H (put S' D (.lst acc)) H' → Q (.ref D) H') :
    tLc (liftI X.K S0 H0 fi) (tgR X.K t) (liftB X.K S0 H0 tt) (lift X.K S0 H0 te) vs σ H Q := by
  refine ⟨ρ, S, re, rs, ex, hi.mono _ _ _ _ (fun its gd S1 q J H1 w rs1 ex1 => ?_) q⟩
  intro D hD
  have q := q D (rs1.fr hD)
  refine ⟨fun i m H2 => i + m = its.length ∧ ∃ acc S2, S2 D = none ∧ RepS X.K H2 (put S2 D (.lst acc)) ∧ Ext S1 H1 (put S2 D (.lst acc)) H2 ∧ lcW gd t tt te (wipeP ρ vs) D (F D) (its.drop i) acc S2,
    ⟨its.length, by omega, [], S1, rs1.fr hD, rs1.newL hD rfl, Ext.newS hD, by rw [List.drop_zero]; exact q⟩, fun i m H2 hW => ?_⟩
  obtain ⟨em, acc, S2, n2, rs2, ex2, q2⟩ := hW
  cases hd : its.drop i with
  | nil =>
    rw [hd] at q2
    have hil : its.length ≤ i := by
      have := congrArg List.length hd
      simp at this
      omega
    have e0 : i = its.length := by omega
    subst e0
    exact .inl ⟨w.stop _ H2 ex2 rs2 q2.1, fin D acc S2 H2 q2.2 n2 rs2 (ex1.trans ex2)⟩
  | cons x xs =>
    rw [hd] at q2
    have hil : i < its.length := by
      have := congrArg List.length hd
      simp at this
      omega
    have hx : its[i]? = some x := by
      have := congrArg (fun l => l[0]?) hd
      simpa using this
    have hxs : its.drop (i + 1) = xs := by
      have := congrArg (List.drop 1) hd
      simpa [Nat.add_comm] using this
    obtain ⟨hgo, hy⟩ := w.go _ H2 i x ex2 rs2 q2.1 hx
    refine .inr ⟨hgo, fun H3 => ∃ acc S3, S3 D = none ∧ RepS X.K H3 (put S3 D (.lst acc)) ∧ Ext S1 H1 (put S3 D (.lst acc)) H3 ∧ lcW gd t tt te (wipeP ρ vs) D (F D) xs acc S3, fun H3 ⟨acc', S3, a1, a2, a3, a4⟩ => ⟨m - 1, by omega, by omega, acc', S3, a1, a2, a3, by rw [hxs]; exact a4⟩, fun v H3 yl => ?_⟩
    obtain ⟨rv, rs3, ex3⟩ := hy v H3 yl
    have q3 := q2.2
    split at q3
    · rename_i ρ' eb
      have e13 := ex2.trans ex3
      have re3 : RepE X.K H3 (put S2 D (.lst acc)) (L2.wipe σ vs) (wipeP ρ vs) := (re.ext rs (ex1.trans e13)).wipe vs
      refine tg_run rs3 t x v (L2.wipe σ vs) (wipeP ρ vs) ρ' _ rv re3 eb fun σ4 re4 w4 => ⟨by rw [w4 vs hv]; exact wipe_wipe σ vs vs fun i h => h, ?_⟩
      have e03 := (ex.trans ex1).trans e13
      refine ⟨ρ', _, re4, rs3, e03, m1 _ _ _ _ (fun c S5 q5 H5 rs5 ex5 => ?_) q3⟩
      have e15 := e13.trans ex5
      cases c with
      | true =>
        refine ⟨ρ', S5, re4.ext rs3 ex5, rs5, e03.trans ex5, m2 _ _ _ _ (fun y S6 q6 yv H6 ry rs6 ex6 => ?_) q5⟩
        obtain ⟨h1, h2, h3⟩ := q6
        obtain ⟨av, hav, ra⟩ := rs6 D _ h1
        refine ⟨av, hav, by rw [ra.len]; exact h2, acc ++ [y], del S6 D, by simp, ?_, ?_, h3⟩
        · rw [put_del]
          exact rs6.chg h1 (ra.app ⟨yv, [], rfl, ry, rfl⟩)
        · rw [put_del]
          exact (e15.trans ex6).trans (Ext.chg h1)
      | false =>
        obtain ⟨h1, h2⟩ := q5
        refine ⟨acc, del S5 D, by simp, ?_, ?_, h2⟩
        · rw [put_del, put_self h1]; exact rs5
        · rw [put_del, put_self h1]; exact e15
    · exact q3.elim
theorem lc_fin {K : PySem.W.Frag} {S : Sto} {H : Hp} {Q : VK} {G : QV} {acc : List Pv} {S' : Sto} {D : Addr} {H' : Hp} (g : G (.lst acc) S') (hn : S' D = none) (rs : RepS K H' (put S' D (.lst acc))) (e : Ext S H (put S' D (.lst acc)) H') (hG : ∀ p S', G p S' → ∀ v H', RepV K H' S' p v → RepS K H' S' → Ext S H S' H' → Q v H') : Q (.ref D) H' := by
  obtain ⟨vs, e1, r⟩ := rs D _ put_same
  have sb : Sub S' (put S' D (.lst acc)) := Sub.put hn
  exact hG _ _ g (.ref D) H' ⟨D, vs, rfl, e1, hn, r.sub sb⟩ (rs.sub sb) (e.sub sb)
variable {elt tg iter : Expr} {ifs : List Expr} {scope : Scope} {fi : PFI} {t : Tg} {tt : PFB} {te : PF}
theorem fLc_mono {vs : List Nat} (hi : PIt X S0 H0 tg iter fi) (m1 : ∀ ρ S Q Q', (∀ p S', Q p S' → Q' p S') → tt ρ S Q → tt ρ S Q') (m2 : ∀ ρ S Q Q', (∀ p S', Q p S' → Q' p S') → te ρ S Q → te ρ S Q') : ∀ ρ S Q Q', (∀ p S', Q p S' → Q' p S') → fLc fi t tt te vs ρ S Q → fLc fi t tt te vs ρ S Q' :=
  fun ρ S Q Q' i q => hi.mono _ _ _ _ (fun its gd S1 q D hD => lcW_mono m1 m2 (fun _ _ q => i _ _ q) its [] S1 (q D hD)) q
theorem fLcT_mono {vs : List Nat} (hi : PIt X S0 H0 tg iter fi) (m1 : ∀ ρ S Q Q', (∀ p S', Q p S' → Q' p S') → tt ρ S Q → tt ρ S Q') (m2 : ∀ ρ S Q Q', (∀ p S', Q p S' → Q' p S') → te ρ S Q → te ρ S Q') : ∀ ρ S Q Q', (∀ p S', Q p S' → Q' p S') → fLcT fi t tt te vs ρ S Q → fLcT fi t tt te vs ρ S Q' :=
  fun ρ S Q Q' i q => hi.mono _ _ _ _ (fun its gd S1 q D hD => lcW_mono m1 m2 (fun _ _ q => i _ _ q) its [] S1 (q D hD)) q
/-- the block's parts hold whatever the block's frame is -/
abbrev Blk (X : Cx) (scope : Scope) (P : Cx → Prop) : Prop := ∀ (s : Shared) (H : Hp) (C : Addr) (cl : List (Str × Addr)) (fp : List Addr), P (X.blk s H scope (compEnvC scope cl C X.env) fp)
theorem pv_lc (own : List (Str × Nat)) (hc : X.calm = true) (hN : X.N.Nodup) (hi : PIt X S0 H0 tg iter fi) (ok : BlkOk X.N X.env.scope scope own) (hg : Blk X scope fun Y => PG Y tg (tgR X.K t)) (ht : Blk X scope fun Y => PBs Y S0 H0 ifs tt) (he : Blk X scope fun Y => PV Y S0 H0 elt te)
    (hv : ∀ i ∈ slotsT t, i ∈ own.map (·.2) := by decide) (hs : ∀ x, foldedSetIterable iter X.env x = pure x := by intro _; rfl) : PV X S0 H0 (.ListComp elt [⟨tg, iter, ifs, 0⟩] scope pos) (fLc fi t tt te (own.map (·.2))) := by
  have m1 := (ht X.s_0 X.H_0 0 [] []).mono
  have m2 := (he X.s_0 X.H_0 0 [] []).mono
  refine ⟨fLc_mono hi m1 m2, PE.imp (pe_lc (te := lift X.K S0 H0 te) (tt := liftB X.K S0 H0 tt) hc hN hi.pi ok hg (fun s H C cl fp => (ht s H C cl fp).pts) (fun s H C cl fp => (he s H C cl fp).pe) hs) fun σ H Q ⟨ρ, S, re, rs, ex, q⟩ => ?_⟩
  exact lc_sim hi hv m1 m2 re rs ex q fun D acc S' H' g hn rs' e' => lc_fin (G := fun p S' => ∀ v H', RepV X.K H' S' p v → RepS X.K H' S' → Ext S H S' H' → Q v H') g hn rs' e' fun p S' h => h
theorem pv_lcT (own : List (Str × Nat)) (hc : X.calm = true) (hN : X.N.Nodup) (hi : PIt X S0 H0 tg iter fi) (ok : BlkOk X.N X.env.scope scope own) (hg : Blk X scope fun Y => PG Y tg (tgR X.K t)) (ht : Blk X scope fun Y => PBs Y S0 H0 ifs tt) (he : Blk X scope fun Y => PV Y S0 H0 elt te)
    (hv : ∀ i ∈ slotsT t, i ∈ own.map (·.2) := by decide) (hs : ∀ x, foldedSetIterable iter X.env x = pure x := by intro _; rfl) : PV X S0 H0 (.ListComp elt [⟨tg, iter, ifs, 0⟩] scope pos) (fLcT fi t tt te (own.map (·.2))) := by
  have m1 := (ht X.s_0 X.H_0 0 [] []).mono
  have m2 := (he X.s_0 X.H_0 0 [] []).mono
  refine ⟨fLcT_mono hi m1 m2, PE.imp (pe_lc (te := lift X.K S0 H0 te) (tt := liftB X.K S0 H0 tt) hc hN hi.pi ok hg (fun s H C cl fp => (ht s H C cl fp).pts) (fun s H C cl fp => (he s H C cl fp).pe) hs) fun σ H Q ⟨ρ, S, re, rs, ex, q⟩ => ?_⟩
  exact lc_sim hi hv m1 m2 re rs ex q fun D acc S' H' g hn rs' e' => g (.ref D) H' rfl rs' e'
/-- name = [..] on one line -/
theorem pz_setLc (i : Nat) {y : Str} {py spos : Pos} (own : List (Str × Nat)) (hc : X.calm = true) (hN : X.N.Nodup) (hi : PIt X S0 H0 tg iter fi) (ok : BlkOk X.N X.env.scope scope own) (hg : Blk X scope fun Y => PG Y tg (tgR X.K t)) (ht : Blk X scope fun Y => PBs Y S0 H0 ifs tt) (he : Blk X scope fun Y => PV Y S0 H0 elt te)
    (hsw : swapsWith (.ListComp elt [⟨tg, iter, ifs, 0⟩] scope pos) (some (.Name y py)) spos.line X.env = pure true)
    (hy : X.N[i]? = some y := by rfl) (hyl : X.env.scope.names.lookup y = some .local := by rfl) (hv : ∀ i ∈ slotsT t, i ∈ own.map (·.2) := by decide) (hs : ∀ x, foldedSetIterable iter X.env x = pure x := by intro _; rfl) : PZ X S0 H0 (.Assign [.Name y py] (.ListComp elt [⟨tg, iter, ifs, 0⟩] scope pos) spos) (gSet i (fLc fi t tt te (own.map (·.2)))) := by
  have m1 := (ht X.s_0 X.H_0 0 [] []).mono
  have m2 := (he X.s_0 X.H_0 0 [] []).mono
  refine ⟨fun D D' ρ S l q => fLc_mono hi m1 m2 _ _ _ _ (fun _ _ q => l.1 _ _ q) q, PS.imp (ps_setLc (te := lift X.K S0 H0 te) (tt := liftB X.K S0 H0 tt) hc hN hy hyl hsw hi.pi ok hg (fun s H C cl fp => (ht s H C cl fp).pts) (fun s H C cl fp => (he s H C cl fp).pe) hs) fun D σ H ⟨ρ, S, re, rs, ex, q⟩ => ?_⟩
  refine lc_sim hi hv m1 m2 re rs ex q fun L acc S' H' g hn rs' e' => ?_
  exact lc_fin (Q := fun x H1 => gName i x σ H1 D.nx) (G := fun p S' => (lE X.K S H D).nx (ρ.set i (some p)) S') g hn rs' e' fun p S' h v H' a1 a2 a3 => h _ H' ((re.ext rs a3).set i a1) a2 a3
theorem pz_setLcT (i : Nat) {y : Str} {py spos : Pos} (own : List (Str × Nat)) (hc : X.calm = true) (hN : X.N.Nodup) (hi : PIt X S0 H0 tg iter fi) (ok : BlkOk X.N X.env.scope scope own) (hg : Blk X scope fun Y => PG Y tg (tgR X.K t)) (ht : Blk X scope fun Y => PBs Y S0 H0 ifs tt) (he : Blk X scope fun Y => PV Y S0 H0 elt te)
    (hsw : swapsWith (.ListComp elt [⟨tg, iter, ifs, 0⟩] scope pos) (some (.Name y py)) spos.line X.env = pure true)
    (hy : X.N[i]? = some y := by rfl) (hyl : X.env.scope.names.lookup y = some .local := by rfl) (hv : ∀ i ∈ slotsT t, i ∈ own.map (·.2) := by decide) (hs : ∀ x, foldedSetIterable iter X.env x = pure x := by intro _; rfl) : PZ X S0 H0 (.Assign [.Name y py] (.ListComp elt [⟨tg, iter, ifs, 0⟩] scope pos) spos) (gSet i (fLcT fi t tt te (own.map (·.2)))) := by
  have m1 := (ht X.s_0 X.H_0 0 [] []).mono
  have m2 := (he X.s_0 X.H_0 0 [] []).mono
  refine ⟨fun D D' ρ S l q => fLcT_mono hi m1 m2 _ _ _ _ (fun _ _ q => l.1 _ _ q) q, PS.imp (ps_setLc (te := lift X.K S0 H0 te) (tt := liftB X.K S0 H0 tt) hc hN hy hyl hsw hi.pi ok hg (fun s H C cl fp => (ht s H C cl fp).pts) (fun s H C cl fp => (he s H C cl fp).pe) hs) fun D σ H ⟨ρ, S, re, rs, ex, q⟩ => ?_⟩
  exact lc_sim hi hv m1 m2 re rs ex q fun L acc S' H' g hn rs' e' => g _ H' ((re.ext rs e').set i (p := .ref L) (v := .ref L) rfl) rs' e'

/-! ### lists that are changed -/
@[irreducible] def oAppend (x : Pv) (ps : List Pv) (S : Sto) (Q : QV) : Prop := match x, ps with
  | .ref a, [p] => (match S a with
    | some (.lst xs) => xs.length < sizeLine ∧ Q .non (put S a (.lst (xs ++ [p])))
    | _ => False)
  | _, _ => False
/-- o.m(..): ck is what is asked of the object ahead of the arguments -/
def fMeth (ck : Sto → Pv → Bool) (o : Pv → List Pv → Sto → QV → Prop) (fa : PF) (fs : PFs) : PF := fun ρ S Q => fa ρ S fun x S1 => ck S1 x = true ∧ fs ρ S1 fun ps S2 => o x ps S2 Q
def ckL (S : Sto) (x : Pv) : Bool := (rdL S x).isSome
theorem ckL_ty {K : PySem.W.Frag} {H : Hp} {S : Sto} (rs : RepS K H S) {x : Pv} {v : V} (r : RepV K H S x v) (h : ckL S x = true) : tyV K "list" v H := by
  unfold ckL at h
  obtain ⟨xs, e⟩ := Option.isSome_iff_exists.mp h
  obtain ⟨a, vs, rfl, hq, _⟩ := rdL_rep rs r e
  exact .inl ⟨rfl, vs, hq⟩
theorem fMeth_mono {ck : Sto → Pv → Bool} {o : Pv → List Pv → Sto → QV → Prop} {es : List Expr} {fs : PFs} (m : ∀ x ps S Q Q', (∀ p S', Q p S' → Q' p S') → o x ps S Q → o x ps S Q') (ha : PV X S0 H0 a fa) (hb : PVs X S0 H0 es fs) : ∀ ρ S Q Q', (∀ p S', Q p S' → Q' p S') → fMeth ck o fa fs ρ S Q → fMeth ck o fa fs ρ S Q' :=
  fun ρ S Q Q' i q => ha.mono _ _ _ _ (fun x S1 q => ⟨q.1, hb.mono _ _ _ _ (fun ps S2 q => m _ _ _ _ _ i q) q.2⟩) q
theorem lift_meth {T : String} {ck : Sto → Pv → Bool} {o : Pv → List Pv → Sto → QV → Prop} {r : V → List V → Hp → VK → Prop} {es : List Expr} {fs : PFs} (hck : ∀ (S : Sto) (x : Pv) (v : V) (H : Hp), RepS X.K H S → RepV X.K H S x v → ck S x = true → tyV X.K T v H)
    (ho : ∀ x ps S Qp v vs H Q, RepV X.K H S x v → RepVs X.K H S ps vs → RepS X.K H S → o x ps S Qp → (∀ p S' z H', Qp p S' → RepV X.K H' S' p z → RepS X.K H' S' → Ext S H S' H' → Q z H') → r v vs H Q) (ha : PV X S0 H0 a fa) (hb : PVs X S0 H0 es fs) {σ : L2.St} {H : Hp} {Q : VK} (h : lift X.K S0 H0 (fMeth ck o fa fs) σ H Q) :
    tBM X.K T r (lift X.K S0 H0 fa) (liftA X.K S0 H0 fs) σ H Q := by
  obtain ⟨ρ, S, re, rs, ex, q⟩ := h
  refine ⟨ρ, S, re, rs, ex, ha.mono _ _ _ _ (fun x S1 q v H1 rv rs1 ex1 => ⟨hck S1 x v H1 rs1 rv q.1, ?_⟩) q⟩
  refine ⟨ρ, S1, re.ext rs ex1, rs1, ex.trans ex1, hb.mono _ _ _ _ (fun ps S2 q vs H2 rvs rs2 ex2 => ?_) q.2⟩
  exact ho x ps S2 _ v vs H2 Q (RepV.ext rs1 ex2 x v rv) rvs rs2 q fun p S' z H' q rz rs' ex' => q z H' rz rs' ((ex1.trans ex2).trans ex')
theorem pv_append {e : Expr} {fs : PFs} {apos cpos : Pos} (ha : PV X S0 H0 a fa) (hb : PVs X S0 H0 [e] fs) (hbase : attributeBase a "append" X.env (eval a X.env) = eval a X.env := by rfl)
    (hfew : ((backTo cpos (starEach [e] X.env)).all (fun x => !x.1) && (backToKw cpos (keywordEach [] X.env)).all (fun x => x.1.isSome) && decide ([e].length + ([] : List Keyword).length + (if ([] : List Keyword).isEmpty then 0 else 1) < 30)) = true := by rfl)
    (hline : (apos.endLine == cpos.line) = true := by rfl) (hs : starEach [e] X.env = (false, eval e X.env) :: starEach [] X.env := by rfl) (hplain : (backTo cpos (starEach [] X.env)).any (·.1) = false := by rfl) :
    PV X S0 H0 (.Call (.Attribute a "append" apos) [e] [] cpos) (fMeth ckL oAppend fa fs) := by
  have m : ∀ x ps S Q Q', (∀ p S', Q p S' → Q' p S') → oAppend x ps S Q → oAppend x ps S Q' := fun x ps S Q Q' i q => by
    unfold oAppend at q ⊢
    split at q
    · split at q
      · exact ⟨q.1, i _ _ q.2⟩
      · exact q
    · exact q
  refine ⟨fMeth_mono m ha hb, PE.imp (pe_bm PySem.F.plainAttrs_list PySem.F.slot_list_append PySem.F.type_list_append mt_append ha.pe hb.pa hbase hfew hline hs hplain) fun σ H Q h => lift_meth (fun S x v H rs r h => ckL_ty rs r h) (fun x ps S Qp v vs H Q rv rvs rs h k => ?_) ha hb h⟩
  unfold oAppend at h
  split at h
  · split at h
    · rename_i xs e
      obtain ⟨us, hu, ru⟩ := rs _ _ e
      obtain ⟨pv, rfl, rp⟩ := rvs.one
      exact ⟨_, us, pv, rv, rfl, hu, by rw [ru.len]; exact h.1, k _ _ _ _ h.2 rfl (rs.chg e (ru.app ⟨pv, [], rfl, rp, rfl⟩)) (Ext.chg e)⟩
    · exact h.elim
  · exact h.elim
/-- o[i] = e, a list -/
@[irreducible] def oSetIx (x y p : Pv) (S : Sto) (Q : Sto → Prop) : Prop := match x, y with
  | .ref a, .int i => (match S a with
    | some (.lst xs) => (match ixN xs.length i with | some j => Q (put S a (.lst (xs.set j p))) | none => False)
    | _ => False)
  | _, _ => False
def gSetIx (fe fo fi : PF) : PFS := fun D ρ S => fe ρ S fun p S1 => fo ρ S1 fun x S2 => fi ρ S2 fun y S3 => oSetIx x y p S3 fun S4 => D.nx ρ S4
theorem pz_setIx {o i e : Expr} {fe fo fi : PF} {pos2 : Pos} (he : PV X S0 H0 e fe) (ho : PV X S0 H0 o fo) (hi : PV X S0 H0 i fi)
    (ha : ∀ v, assign (.Subscript o i pos2) X.env v = (do
      let ov ← holding [v] (eval o X.env)
      let iv ← holding [v, ov] (eval i X.env)
      standAt pos2
      holding [v, ov, iv] (setItem ov iv v)
      release [v, ov, iv] []) := by intro _; rfl) (hs : swapsWithSole [.Subscript o i pos2] e pos.line X.env = pure false := by rfl) (hw : swappedStores [.Subscript o i pos2] e X.env = pure none := by rfl)
    (h1 : (assignEach [.Subscript o i pos2] X.env).map (·.2) = [assign (.Subscript o i pos2) X.env] := by rfl) : PZ X S0 H0 (.Assign [.Subscript o i pos2] e pos) (gSetIx fe fo fi) := by
  have m : ∀ x y p S (Q Q' : Sto → Prop), (∀ S', Q S' → Q' S') → oSetIx x y p S Q → oSetIx x y p S Q' := fun x y p S Q Q' i q => by
    unfold oSetIx at q ⊢
    split at q
    · split at q
      · split at q
        · exact i _ q
        · exact q
      · exact q
    · exact q
  refine ⟨fun D D' ρ S l q => he.mono _ _ _ _ (fun p S1 q => ho.mono _ _ _ _ (fun x S2 q => hi.mono _ _ _ _ (fun y S3 q => m _ _ _ _ _ _ (fun S4 q => l.1 _ _ q) q) q) q) q, PS.imp (ps_asg he.pe (pg_sub ho.pe hi.pe set_list ha) hs hw h1) fun D σ H ⟨ρ, S, re, rs, ex, q⟩ => ?_⟩
  refine ⟨ρ, S, re, rs, ex, he.mono _ _ _ _ (fun p S1 q v H1 rv rs1 ex1 => ?_) q⟩
  refine ⟨ρ, S1, re.ext rs ex1, rs1, ex.trans ex1, ho.mono _ _ _ _ (fun x S2 q xv H2 rx rs2 ex2 => ?_) q⟩
  have e2 := ex1.trans ex2
  refine ⟨ρ, S2, re.ext rs e2, rs2, ex.trans e2, hi.mono _ _ _ _ (fun y S3 q yv H3 ry rs3 ex3 => ?_) q⟩
  have e3 := e2.trans ex3
  unfold oSetIx at q
  split at q
  · split at q
    · rename_i xs e
      split at q
      · rename_i j ej
        obtain ⟨us, hu, ru⟩ := rs3 _ _ e
        have rv3 := RepV.ext rs1 (ex2.trans ex3) p v rv
        have rsn := rs3.chg e (ru.set j rv3)
        have en := e3.trans (Ext.chg (H := H3) (m' := .lst (xs.set j p)) (o := .lst (us.set j v)) e)
        exact ⟨_, us, _, j, rx, ry, hu, by rw [ru.len]; exact ej, q σ _ (re.ext rs en) rsn en⟩
      · exact q.elim
    · exact q.elim
  · exact q.elim
end
end PL

/-! The pure layer, part 5: defs, calls, raise, the end. -/
namespace PL
open PySem PySem.Spec PyProof.Rows L2

/-- an exception that is let out: its class's name -/
abbrev QE := Str → Sto → Prop
/-- a def's promise over pure values: arguments, store, what is wanted of its value, of a class that it raises -/
abbrev PSp := List Pv → Sto → QV → QE → Prop
def liftSp (K : PySem.W.Frag) (mg : Str → Option Value) (psp : PSp) : Sp := fun vs H Q E => ∃ ps S, RepVs K H S ps vs ∧ RepS K H S ∧
  psp ps S (fun p S' => ∀ v H', RepV K H' S' p v → RepS K H' S' → Ext S H S' H' → Q v H') fun c S' => ∀ C H', mg c = some (.ref C) → RepS K H' S' → Ext S H S' H' → E (.ref C) none H'
structure FnG (P : Program) (w : World) (K : PySem.W.Frag) (mg : Str → Option Value) (base : Heap) (k : Nat) (f : Addr) (fd : FuncData) (ps : List Str) (psp : PSp) : Prop where
  len : ∀ xs S Q E, psp xs S Q E → xs.length = ps.length
  mono : ∀ xs S (Q Q' : QV) (E E' : QE), (∀ p S', Q p S' → Q' p S') → (∀ C S', E C S' → E' C S') → psp xs S Q E → psp xs S Q' E'
  run : ∀ (A : Around) (outer : List Env) (s : Shared) (H : Hp) (args : Args) (us : List Value) (vs : List V) (Q : VK) (E : XK), Room k A → A.guards = some [] → Env0 P w K mg base A outer s H → BindsTo s fd args (ps.zip us) → Vals vs us →
    liftSp K mg psp vs H Q E → codeAny (model P w) A (.call (.ref f) args) (CR (L2.CX P w) outer P w H s Q E) s
theorem FnG.up {P : Program} {w : World} {K : PySem.W.Frag} {mg : Str → Option Value} {base : Heap} {j k : Nat} {f : Addr} {fd : FuncData} {ps : List Str} {psp : PSp} (F : FnG P w K mg base j f fd ps psp) (h : j ≤ k) : FnG P w K mg base k f fd ps psp :=
  ⟨F.len, F.mono, fun A o s H ar us vs Q E hr => F.run A o s H ar us vs Q E (hr.mono h)⟩

/-- what a body may leave: less in the store, a list told whole -/
structure Wkn (p : Pv) (S : Sto) (p' : Pv) (S' : Sto) : Prop where
  sub : Sub S' S
  rep : ∀ (K : PySem.W.Frag) (H : Hp) (v : V), RepS K H S → RepV K H S p v → RepV K H S' p' v
theorem Wkn.refl (p : Pv) (S : Sto) : Wkn p S p S := ⟨Sub.refl S, fun _ _ _ _ h => h⟩
theorem Wkn.less {p : Pv} {S S' : Sto} (h : Sub S' S) : Wkn p S p S' := ⟨h, fun _ _ _ _ r => r.sub h⟩
theorem Wkn.frz {a : Addr} {S : Sto} {xs : List Pv} (h : S a = some (.lst xs)) : Wkn (.ref a) S (.lst xs) (del S a) := ⟨Sub.del, fun K H v rs r => by
  obtain ⟨vs, e, rv⟩ := rs a _ h
  have e1 : v = .ref a := r
  exact ⟨a, vs, e1, e, by simp, rv.sub Sub.del⟩⟩
theorem Wkn.trans {p p1 p2 : Pv} {S S1 S2 : Sto} (a : Wkn p S p1 S1) (b : Wkn p1 S1 p2 S2) : Wkn p S p2 S2 := ⟨b.sub.trans a.sub, fun K H v rs r => b.rep K H v (rs.sub a.sub) (a.rep K H v rs r)⟩
def Out (Q : QV) (p : Pv) (S : Sto) : Prop := ∃ p' S', Wkn p S p' S' ∧ Q p' S'
theorem Out.id {Q : QV} {p : Pv} {S : Sto} (h : Q p S) : Out Q p S := ⟨p, S, Wkn.refl p S, h⟩
theorem Out.less {Q : QV} {p : Pv} {S S' : Sto} (h : Sub S' S) (q : Q p S') : Out Q p S := ⟨p, S', Wkn.less h, q⟩
theorem Out.frz {Q : QV} {a : Addr} {S S' : Sto} {xs : List Pv} (h : S a = some (.lst xs)) (h2 : Sub S' (del S a)) (q : Q (.lst xs) S') : Out Q (.ref a) S := ⟨.lst xs, S', (Wkn.frz h).trans (Wkn.less h2), q⟩
def OutE (E : QE) (C : Str) (S : Sto) : Prop := ∃ S', Sub S' S ∧ E C S'
/-- the slots at the entry -/
def st0 (n : Nat) (ps : List Pv) : Env' := ps.map some ++ List.replicate (n - ps.length) none
theorem rep_st0 {K : PySem.W.Frag} {H : Hp} {S : Sto} {N : List Str} {ps : List Pv} {vs : List V} (r : RepVs K H S ps vs) : RepE K H S (L2.start N vs) (st0 N.length ps) := by
  unfold L2.start st0
  refine ⟨by simp [r.len], fun i p e => ?_⟩
  by_cases hi : i < ps.length
  · rw [List.getElem?_append_left (by simpa using hi), List.getElem?_map, Option.map_eq_some_iff] at e
    obtain ⟨q, e1, e2⟩ := e
    cases e2
    obtain ⟨v, h1, h2⟩ := r.get e1
    exact ⟨v, by rw [List.getElem?_append_left (by simpa [r.len] using hi), List.getElem?_map, h1]; rfl, h2⟩
  · rw [List.getElem?_append_right (by simpa using hi), List.getElem?_replicate] at e
    split at e <;> cases e
/-- a def as it stands behind the top; dV: its defaults -/
structure FunV (K : PySem.W.Frag) (x qual : Str) (st : Stmt) (dV : Value) (f : Addr) (fd : FuncData) : Prop where
  ex : ∃ (oc : Value) (od : Option Addr) (kV doc pm : Value) (an : Option Addr) (cdv ct : Value) (osl : Array (Option Value)),
    fd = PySem.W.fnOf x qual (defArgs st) (defBody st) (defScope st) dV kV doc pm an cdv ct ∧ K.lookup f = some ⟨oc, od, .func fd, osl⟩ ∧ PySem.W.codeIn K cdv qual = true
  kp : PySem.W.keepIn K (.ref f) = true
theorem funV_mk {K : PySem.W.Frag} {x qual : Str} {st : Stmt} {f : Addr} {oc : Value} {od : Option Addr} {dV kV doc pm : Value} {an : Option Addr} {cdv ct : Value} {osl : Array (Option Value)}
    (l : K.lookup f = some ⟨oc, od, .func (PySem.W.fnOf x qual (defArgs st) (defBody st) (defScope st) dV kV doc pm an cdv ct), osl⟩) (c : PySem.W.codeIn K cdv qual = true) (k : PySem.W.keepIn K (.ref f) = true) :
    FunV K x qual st dV f (PySem.W.fnOf x qual (defArgs st) (defBody st) (defScope st) dV kV doc pm an cdv ct) := ⟨⟨oc, od, kV, doc, pm, an, cdv, ct, osl, rfl, l, c⟩, k⟩
theorem FunV.binds {K : PySem.W.Frag} {x qual : Str} {st : Stmt} {dV : Value} {f : Addr} {fd : FuncData} {ps : List Str} (F : FunV K x qual st dV f fd)
    (h : ∀ (kV doc pm : Value) (an : Option Addr) (cdv ct : Value) (us : List Value), us.length = ps.length → bindArgs (PySem.W.fnOf x qual (defArgs st) (defBody st) (defScope st) dV kV doc pm an cdv ct) ⟨us, []⟩ = pure (ps.zip us)) : Binds K fd ps [] := by
  obtain ⟨oc, od, kV, doc, pm, an, cdv, ct, osl, rfl, lk, hcd⟩ := F.ex
  exact .all (h kV doc pm an cdv ct)
/-- n values are written, the defaults behind the first j fill up -/
theorem FunV.bindsD {K : PySem.W.Frag} {x qual : Str} {st : Stmt} {T : Addr} {f : Addr} {fd : FuncData} {ps : List Str} {o : Obj} {its : List Value} {m : Nat} (F : FunV K x qual st (.ref T) f fd) (lT : K.lookup T = some o) (oT : o.data = .seq its.toArray m) (n j : Nat) (hn : n + (its.length - j) = ps.length)
    (h : ∀ (kV doc pm : Value) (an : Option Addr) (cdv ct : Value) (us : List Value), us.length = n →
      ∃ k, bindArgs (PySem.W.fnOf x qual (defArgs st) (defBody st) (defScope st) (.ref T) kV doc pm an cdv ct) ⟨us, []⟩ = seqItems? (.ref T) >>= k ∧ k (some its.toArray) = pure (ps.zip (us ++ its.drop j))) : Binds K fd ps (its.drop j) := by
  obtain ⟨oc, od, kV, doc, pm, an, cdv, ct, osl, rfl, lk, hcd⟩ := F.ex
  intro s us X hlen
  have l2 : us.length = n := by
    rw [List.length_append, List.length_drop] at hlen
    omega
  obtain ⟨k, e1, e2⟩ := h kV doc pm an cdv ct us l2
  refine BindsTo.of_looks fun M => ?_
  rw [e1]
  exact looks_items X lT oT (.of_pure e2)
section
variable {P : Program} {w : World} {K : PySem.W.Frag} {mg : Str → Option Value} {base : Heap}
/-- a promise that nobody can ask for -/
theorem fng_never {f : Addr} {fd : FuncData} {ps : List Str} {k : Nat} : FnG P w K mg base k f fd ps (fun _ _ _ _ => False) :=
  ⟨fun _ _ _ _ h => h.elim, fun _ _ _ _ _ _ _ _ h => h, fun A outer s H args us vs Q E hr hgu e0 hb rv hsp => by
    obtain ⟨_, _, _, _, h⟩ := hsp
    exact h.elim⟩
/-- the body's context at an entry -/
structure Ent (k : Nat) (X : Cx) (P : Program) (w : World) (K : PySem.W.Frag) (mg : Str → Option Value) (base : Heap) (N : List Str) (scope : Scope) (S0 : Sto) (H0 : Hp) (Ep : QE) : Prop where
  prog : X.prog = P
  ww : X.w = w
  frag : X.K = K
  glob : X.mg = mg
  bs : X.base = base
  names : X.N = N
  room : Room k X.A
  gu : X.A.guards = some []
  pas : PassesOwn (model X.prog X.w) X.A X.env X.xe
  tak : ∃ E : XK, Takes X (fun cls d _ H => E cls d H) ∧ ∀ c C S' H', Ep c S' → mg c = some (.ref C) → RepS K H' S' → Ext S0 H0 S' H' → E (.ref C) none H'
theorem okG {x qual : Str} {st : Stmt} {f : Addr} {fd : FuncData} {N ps : List Str} {k : Nat} {psp : PSp} {dV : Value} (F : FunV K x qual st dV f fd) (Sc : FnScope N ps (defScope st)) (len : ∀ xs S Q E, psp xs S Q E → xs.length = ps.length)
    (mono : ∀ xs S (Q Q' : QV) (E E' : QE), (∀ p S', Q p S' → Q' p S') → (∀ C S', E C S' → E' C S') → psp xs S Q E → psp xs S Q' E')
    (body : ∀ (cdv : Value) (A : Around) (outer : List Env) (s : Shared) (S0 : Sto) (H0 : Hp) (E : XK) (Q : QV) (Ep : QE) (xs : List Pv),
      let X := cxOf (L2.CX P w) P w K mg base N qual (defScope st) f cdv A outer s H0 E
      Room k X.A → X.A.guards = some [] → (∀ c C S' H', OutE Ep c S' → mg c = some (.ref C) → RepS K H' S' → Ext S0 H0 S' H' → E (.ref C) none H') → psp xs S0 Q Ep →
      ∃ g, PZs X S0 H0 (defBody st) g ∧ g { nx := fun _ S => Out Q .non S, rt := Out Q } (st0 N.length xs) S0) : FnG P w K mg base (k + 1) f fd ps psp := by
  obtain ⟨oc, od, kV, doc, pm, an, cdv, ct, osl, rfl, lk, hcd⟩ := F.ex
  refine ⟨len, mono, fun A outer s H args us vs Q E hr hgu e0 hb rv hsp => ?_⟩
  obtain ⟨xs, S, rvs, rs, hq⟩ := hsp
  have hl : vs.length = ps.length := by rw [rvs.len]; exact len _ _ _ _ hq
  have kin : K.In s.heap := e0.mod.kin.keeps fun c o e => (e0.bs c o e).1
  have nl : s.heap.NoLimit := e0.mod.nolimit.keeps fun c o e => (e0.bs c o e).1
  have par : ∀ y ∈ ps.zip us, (defScope st).names.lookup y.1 = some .local ∨ ((defScope st).names.lookup y.1 = some .cell ∧ ((cellsFrom (s.heap.objs.size + 1) (defScope st).names []).lookup y.1).isSome = true) := fun ⟨n, v⟩ hy =>
    (Sc.par n (List.of_mem_zip hy).1).elim .inl fun q => .inr ⟨q, PySem.W.cellsFrom_some _ _ _ (.inl q)⟩
  refine codeAny_call_function hr.depth (kin _ _ lk) rfl Sc.co Sc.gen rfl (PySem.W.codeRec_of kin hcd) (hb _ _ _ _ (wpAny_newFunctionEnv_cells Sc.kind par fun env he s1 inc => ?_))
  subst he
  refine ⟨nl.keeps inc.toInCall.keep, codeAny_func ?_⟩
  obtain ⟨g, hg, hw⟩ := body cdv A outer s S H E (fun p S' => ∀ v H', RepV K H' S' p v → RepS K H' S' → Ext S H S' H' → Q v H') (fun c S' => ∀ C H', mg c = some (.ref C) → RepS K H' S' → Ext S H S' H' → E (.ref C) none H') xs (hr.deeper _) hgu
    (fun c C S' H' ⟨S2, sb, q⟩ hm r2 e2 => q C H' hm (r2.sub sb) (e2.sub sb)) hq
  have J0 : Inv (cxOf (L2.CX P w) P w K mg base N qual (defScope st) f cdv A outer s H E) [] (L2.start N vs) H s1 := inv_start Sc hr.hd e0 hl rv inc
  have hlift : liftS K S H g { nx := fun _ H' => Q .non H', rt := Q } (L2.start N vs) H := by
    refine ⟨st0 N.length xs, S, rep_st0 rvs, rs, Ext.refl S H, hg.mono { nx := fun _ S => Out _ .non S, rt := Out _ } _ _ _ ⟨?_, ?_, ?_, ?_⟩ hw⟩
    · rintro ρ S1 ⟨p', S2, wk, q⟩ σ' H' a1 a2 a3
      exact q .non H' (wk.rep K H' .non a2 rfl) (a2.sub wk.sub) (a3.sub wk.sub)
    · rintro p S1 ⟨p', S2, wk, q⟩ v H' a1 a2 a3
      exact q v H' (wk.rep K H' v a2 a1) (a2.sub wk.sub) (a3.sub wk.sub)
    · intro _ _ h; exact h.elim
    · intro _ _ h; exact h.elim
  refine wpAny_mono (hg.pss.run [] s1 (L2.start N vs) H _ J0 hlift) (fun fl s2 hs => ?_) fun e s2 hs => hs
  have done : ∀ {σ2 : L2.St} {H2 : Hp} {v : V} {u : Value}, Inv (cxOf (L2.CX P w) P w K mg base N qual (defScope st) f cdv A outer s H E) [] σ2 H2 s2 → RelV v u → Q v H2 → CE outer P w H s Q u s2 := fun {_ H2 v _} J r q => ⟨v, H2, J.os, J.bare, J.base, J.hok, r, q⟩
  cases fl with
  | ret u => obtain ⟨v, _, _, J, r, q⟩ := hs; exact done J r q
  | next => obtain ⟨_, _, J, q⟩ := hs; exact done (v := V.non) (u := Value.none) J rfl q
  | brk => obtain ⟨_, _, _, q⟩ := hs; exact q.elim
  | cont => obtain ⟨_, _, _, q⟩ := hs; exact q.elim
end

/-! ### calls -/
section
variable {X : Cx} {S0 : Sto} {H0 : Hp} {a b : Expr} {fa fb : PF} {pos p : Pos} {e : Expr} {es : List Expr} {fs : PFs} {k : Nat} {f : Addr} {fd : FuncData} {ps : List Str} {psp : PSp} {x : Str}
theorem runG {pins : List (Addr × Obj)} {σ : L2.St} {H : Hp} {s : Shared} {Q : VK} {us ds : List Value} {vs dvs : List V} {E : XK} (F : FnG X.prog X.w X.K X.mg X.base k f fd ps psp) (hr : Room k X.A) (hgu : X.A.guards = some []) (hb : Binds X.K fd ps ds) (hd : Vals dvs ds) (hx : Passes (L2.CX X.prog X.w) X E) (I : Inv X pins σ H s) (r : Vals vs us)
    (h : liftSp X.K X.mg psp (vs ++ dvs) H Q E) : wpAny (model X.prog X.w) X.A (call (.ref f) us) (EP X pins σ Q) X.xe s := by
  have r2 : Vals (vs ++ dvs) (us ++ ds) := r.append hd
  have hl : (us ++ ds).length = ps.length := by
    obtain ⟨xs, S, rv, _, q⟩ := h
    rw [← r2.length, rv.len]
    exact F.len _ _ _ _ q
  refine wpAny_call (codeAny_mono (F.run X.A X.stack s H ⟨us, []⟩ _ _ Q E hr hgu I.env0 (hb s us I.kIn hl) r2 h) fun res s2 hq => ?_)
  cases res with
  | error er => exact hx pins σ H s er s2 I hq
  | ok fl =>
    cases fl with
    | ret u => exact I.after hq
    | _ => exact False.elim hq
def fCall (psp : PSp) (dps : List Pv) (Ep : QE) (fs : PFs) : PF := fun ρ S Q => fs ρ S fun xs S1 => psp (xs ++ dps) S1 Q Ep
abbrev noE : QE := fun _ _ => False
theorem pv_callG {dps : List Pv} {dvs : List V} {ds : List Value} {E : XK} {Ep : QE} (F : FnG X.prog X.w X.K X.mg X.base k f fd ps psp) (hr : Room k X.A) (hgu : X.A.guards = some []) (hm : X.mg x = some (.ref f)) (hk : PySem.W.keepIn X.K (.ref f) = true) (hb : Binds X.K fd ps ds) (hd : Vals dvs ds) (hdr : ∀ H S, RepVs X.K H S dps dvs)
    (hx : Passes (L2.CX X.prog X.w) X E) (hE : ∀ c C S' H', Ep c S' → X.mg c = some (.ref C) → RepS X.K H' S' → Ext S0 H0 S' H' → E (.ref C) none H') (ha : PVs X S0 H0 (e :: es) fs) (hg : Gl X x := by rfl) (hdb : (x == ("__debug__" : Str)) = false := by decide)
    (he : starEach (e :: es) X.env = (false, eval e X.env) :: starEach es X.env := by rfl) (hpl : (backTo pos (starEach es X.env)).any (·.1) = false := by rfl) : PV X S0 H0 (.Call (.Name x p) (e :: es) [] pos) (fCall psp dps Ep fs) := by
  refine ⟨fun ρ S Q Q' i q => ha.mono _ _ _ _ (fun xs S1 q => F.mono _ _ _ _ _ _ i (fun _ _ h => h) q) q, ⟨fun pins s σ H Q I h => ?_⟩⟩
  obtain ⟨ρ, S, re, rs, ex, q⟩ := h
  refine wpAny_Call_Name_kw (ld_glob I hg hm ?_ hdb)
  refine PySem.W.callWith_K (h₀ := X.base) I.ok.mod.kin hk (thn (ha.pa.run pos pins s σ H (fun vs H1 => liftSp X.K X.mg psp (vs ++ dvs) H1 Q E) I ?_) fun us s1 ⟨vs, H1, I1, r1, q1⟩ => ⟨I1.kIn, ?_⟩) he hpl
  · refine ⟨ρ, S, re, rs, ex, ha.mono _ _ _ _ (fun xs S1 q vs H1 rv rs1 ex1 => ?_) q⟩
    exact ⟨xs ++ dps, S1, rv.app (hdr H1 S1), rs1, F.mono _ _ _ _ _ _ (fun p S' q v H' a1 a2 a3 => q v H' a1 a2 (ex1.trans a3)) (fun c S' h C H' hm a1 a2 => hE c C S' H' h hm a1 ((ex.trans ex1).trans a2)) q⟩
  · exact runG F hr hgu hb hd hx I1 r1 q1
/-- .. of a def that raises nothing here -/
theorem pv_call {dps : List Pv} {dvs : List V} {ds : List Value} (F : FnG X.prog X.w X.K X.mg X.base k f fd ps psp) (hr : Room k X.A) (hgu : X.A.guards = some []) (hm : X.mg x = some (.ref f)) (hk : PySem.W.keepIn X.K (.ref f) = true) (hb : Binds X.K fd ps ds) (hd : Vals dvs ds) (hdr : ∀ H S, RepVs X.K H S dps dvs)
    (ha : PVs X S0 H0 (e :: es) fs) (hg : Gl X x := by rfl) (hdb : (x == ("__debug__" : Str)) = false := by decide)
    (he : starEach (e :: es) X.env = (false, eval e X.env) :: starEach es X.env := by rfl) (hpl : (backTo pos (starEach es X.env)).any (·.1) = false := by rfl) : PV X S0 H0 (.Call (.Name x p) (e :: es) [] pos) (fCall psp dps noE fs) :=
  pv_callG F hr hgu hm hk hb hd hdr passL (fun _ _ _ _ h _ => h.elim) ha hg hdb he hpl

/-! ### raise -/
def gRaise (c : Str) (Ep : QE) : PFS := fun _ _ S => Ep c S
theorem pz_raise {B newId initId : String} {bmB : List Value} {C : Addr} {m : Str} {j : Nat} {p2 pos2 : Pos} {E : XK} {Ep : QE} (hc : X.calm = true) (tk : Takes X (fun cls d _ H => E cls d H)) (hE : ∀ c C S' H', Ep c S' → X.mg c = some (.ref C) → RepS X.K H' S' → Ext S0 H0 S' H' → E (.ref C) none H')
    (F : ExcBaseFacts B newId initId bmB) (q : PySem.W.excIn X.K C bmB newId = true) (gC : X.mg x = some (.ref C)) (kC : PySem.W.keepIn X.K (.ref C) = true) (r : Raises X (.ref C)) (hg : Gl X x := by rfl)
    (hdb : (x == ("__debug__" : Str)) = false := by decide) : PZ X S0 H0 (.Raise (some (.Call (.Name x p) [.Constant (.str m) j p2] [] pos)) none pos2) (gRaise x Ep) :=
  ⟨fun _ _ _ _ _ q => q, PS.imp (ps_raise hc tk (pmk_own F q gC kC r hg hdb)) fun _ _ H ⟨_, S, _, rs, ex, q⟩ => hE x C S H q gC rs ex⟩
end

/-! ### the end -/
theorem noCX {P : Program} {w : World} {l : List Env} {H : Hp} {s : Shared} {e : Value} {s' : Shared} (h : L2.CX P w l H s (fun _ _ _ => False) e s') : False := by
  obtain ⟨_, _, _, _, _, _, _, _, _, _, _, _, z⟩ := h
  exact z.elim
theorem lawG {P : Program} {w : World} {K : PySem.W.Frag} {mg mb : Str → Option Value} {k : Nat} {fa a : Addr} {fd : FuncData} {x : Str} {psp : PSp} {s1 : Shared} {us : List Value} {ns : List Int}
    (kin : K.In s1.heap) (hns : s1.heap.Ns mainGlobals mg) (hbl : s1.heap.Ns builtinsNs mb) (hbb : ∀ x : Str, x ≠ "__name__" → mb x = bootBuiltins x) (hlim : s1.heap.NoLimit) (hge : s1.gens = #[])
    (ha : s1.heap.get? a = some { cls := .type "list", data := .seq us.toArray }) (hi : IntsAre us ns) (hl : ns.length ≤ sizeLine) (hr : Room k callerA)
    (F : ∀ base : Heap, K.In base → base.Ns mainGlobals mg → FnG P w K mg base k fa fd [x] psp) (hbind : ∀ (s : Shared) (u : Value), BindsTo s fd ⟨[u], []⟩ [(x, u)])
    (hsp : ∀ Q : QV, (∀ S, Q (.bl true) S) → psp [.scr (ns.map .int)] (fun _ => none) Q noE) :
    codeAny (model P w) callerA (.call (.ref fa) ⟨[.ref a], []⟩) (fun r s' => r = .ok (.ret (.bool true)) ∧ OldK s1.heap s'.heap ∧ s'.os = s1.os ∧ AllBare s'.gens) s1 := by
  have rvl := vals_ints hi
  have repI : ∀ (H : Hp), RepVs K H (fun _ => none) (ns.map Pv.int) (ns.map V.int) := fun H => by
    clear hsp rvl hi hl
    induction ns with
    | nil => exact rfl
    | cons n r ih => exact ⟨_, _, rfl, rfl, ih⟩
  have main : ∀ H : Hp, Only H → ((∃ o, H a = some (.frz o (.lst (ns.map V.int)))) ∨ SqL K (fun _ => none) a (ns.map V.int)) → HOk P w H s1.heap → (∀ c, H c ≠ none → c = a) → (H a ≠ none → K.lookup a = none) →
      codeAny (model P w) callerA (.call (.ref fa) ⟨[.ref a], []⟩) (fun r s' => r = .ok (.ret (.bool true)) ∧ OldK s1.heap s'.heap ∧ s'.os = s1.os ∧ AllBare s'.gens) s1 := by
    intro H hO hS hok hA hK
    have dictFree : ∀ {c : Addr} {o : Obj} {es : Array DictEntry} {ep : Nat}, s1.heap.get? c = some o → o.data = .dict es ep → H c = none := fun {c o es ep} e d => by
      cases q : H c with
      | none => rfl
      | some u =>
        obtain rfl : c = a := hA c (by rw [q]; simp)
        rw [ha] at e; cases e; cases d
    have nsH : ∀ {c : Addr} {m : Str → Option Value}, s1.heap.Ns c m → (hidT s1.heap H).Ns c m := fun {c m} ⟨o, es, ep, e, d, r⟩ => ⟨o, es, ep, hidT_get e (dictFree e d), d, r⟩
    have kb : K.In (hidT s1.heap H) := fun c o e => hidT_get (kin c o e) (by
      cases q : H c with
      | none => rfl
      | some u =>
        obtain rfl : c = a := hA c (by rw [q]; simp)
        rw [hK (by rw [q]; simp)] at e; cases e)
    have md : Mod K mg (hidT s1.heap H) := ⟨kb, nsH hns, ⟨mb, nsH hbl, hbb⟩, hlim.elim fun mc h => ⟨mc, nsH h.1, h.2⟩⟩
    have en : Env0 P w K mg (hidT s1.heap H) callerA [] s1 H := { frames := rfl, mod := md, bs := fun c o e => of_hidT e, bsz := Nat.le_of_eq (hidT_size _ _), funs := trivial, frf := fun c hc => absurd (show c ∈ ([] : List Addr) from hc) (by simp), hok := hok, bare := .of_eq hge }
    have hspL : liftSp K mg psp [.ref a] H (fun v _ => v = .bl true) fun _ _ _ => False := by
      have FF := F _ kb (nsH hns)
      refine ⟨[.scr (ns.map .int)], fun _ => none, ⟨.ref a, [], rfl, ⟨a, ns.map V.int, rfl, hS, repI H⟩, rfl⟩, (fun c m e => nomatch e), ?_⟩
      exact FF.mono _ _ (fun p _ => p = .bl true) _ noE _ (fun p S' e v H' r _ _ => by rw [e] at r; exact r) (fun _ _ h => h.elim) (hsp _ fun _ => rfl)
    refine codeAny_mono ((F _ kb (nsH hns)).run callerA [] s1 H ⟨[.ref a], []⟩ [.ref a] [.ref a] _ _ hr rfl en (hbind s1 (.ref a)) (.cons rfl .nil) hspL) fun res s2 h => ?_
    cases res with
    | error er => exact (noCX h).elim
    | ok fl =>
      cases fl with
      | ret u =>
        obtain ⟨v, H2, os, bare, un, hok2, r2, q⟩ := h
        have q' : v = .bl true := q
        subst q'
        obtain rfl : u = Value.bool true := r2
        refine ⟨rfl, OldK.of_keep fun c o e => ?_, os, bare⟩
        rcases hO c with z | ⟨ob, ys, z⟩
        · exact un.keep c o e z (fun z => absurd (show c ∈ ([] : List Addr) from z) (by simp)) (by simp)
        · obtain ⟨e1, _⟩ := hok c _ z
          obtain ⟨e2, _⟩ := hok2 c _ (un.frzs c ob _ z)
          rw [e] at e1; cases e1
          exact e2
      | _ => exact False.elim h
  cases hk : K.lookup a with
  | some o =>
    have e := kin a o hk
    rw [ha] at e
    cases e
    exact main (fun _ => none) (fun _ => .inl rfl) (.inr (.inr ⟨_, us.toArray, _, hk, rfl, rfl, rfl, by rw [List.size_toArray, hi.length]; exact hl, by simpa using rvl⟩)) (fun c u z => nomatch z) (fun c z => absurd rfl z) fun z => absurd rfl z
  | none =>
    refine main (fun c => if c = a then some (.frz { cls := .type "list", data := .seq us.toArray } (.lst (ns.map V.int))) else none) (fun c => ?_) (.inl ⟨_, if_pos rfl⟩) (fun c u z => ?_) (fun c z => ?_) fun _ => hk
    · by_cases hc : c = a
      · exact .inr ⟨_, _, if_pos hc⟩
      · exact .inl (if_neg hc)
    · by_cases hc : c = a
      · subst hc
        have z' := (if_pos rfl).symm.trans z
        cases z'
        exact ⟨ha, by rw [List.length_map]; exact hl, us, _, rvl, ha⟩
      · have z' := (if_neg hc).symm.trans z
        cases z'
    · exact Decidable.byContradiction fun hc => z (if_neg hc)
theorem walkG {l : PySem.W.OpenLaw} {n k : Nat} {q : Program} {loose : List Str} {XP : (Str → Option Value) → Heap → Prop} {YP : World → Heap → Prop} {d : DefRec} {K : Params → PySem.W.Frag} {psp : World → PSp} {x : Str}
    (hn : l.most = some n) (hn2 : n ≤ sizeLine) (hdf : d.params.defaults = []) (hr : Room k callerA) (hY : ∀ (w : World) (h : Heap), YP w h → (K w.params).In h)
    (F : ∀ (w : World) (mg : Str → Option Value) (fa : Addr) (h : Heap), (K w.params).In h → h.Ns mainGlobals mg → mg d.name = some (.ref fa) →
      ∃ fd : FuncData, (∀ (s : Shared) (u : Value), BindsTo s fd ⟨[u], []⟩ [(x, u)]) ∧ ∀ base : Heap, (K w.params).In base → base.Ns mainGlobals mg → FnG l.prog w (K w.params) mg base k fa fd [x] (psp w))
    (hsp : ∀ (w : World) (ns : List Int) (Q : QV), ns.length ≤ n → (∀ S, Q (.bl true) S) → psp w [.scr (ns.map .int)] (fun _ => none) Q noE) : PySem.W.WalkO q loose XP YP l.row.toRowW d [] (fun f vs => PySem.call f vs) := by
  refine Att.attach_call hn hdf fun w s0 s1 mg mb fa o pm cd doc a vs ns G Y ho hd hcd hmg hobj hints hlen hge => ?_
  obtain ⟨fd, hb, hF⟩ := F w mg fa _ (hY w _ Y) G.T.g hmg
  exact lawG (hY w _ Y) G.T.g G.T.b G.T.builtins G.T.nolimit hge hobj hints (Nat.le_trans hlen hn2) hr hF hb fun Q hQ => hsp w ns Q hlen hQ
end PL

/-! The pure layer, part 6: short words for the printed derivations. -/
namespace PL
open PySem PySem.Spec PyProof.Rows L2
theorem hu64 {k : Nat} {A : Around} (h : Room k A) : A.units + 64 < cLine := h.units
theorem hu65 {k : Nat} {A : Around} (h : Room k A) : A.units + 65 < cLine := by have := h.un; omega
/-- a def of the module that is called by its name -/
structure Cal (P : Program) (w : World) (K : PySem.W.Frag) (mg : Str → Option Value) (base : Heap) (k : Nat) (x : Str) (dps : List Pv) (psp : PSp) : Prop where
  ex : ∃ (f : Addr) (fd : FuncData) (ps : List Str) (ds : List Value) (dvs : List V), mg x = some (.ref f) ∧ PySem.W.keepIn K (.ref f) = true ∧ Binds K fd ps ds ∧ Vals dvs ds ∧ (∀ H S, RepVs K H S dps dvs) ∧ FnG P w K mg base k f fd ps psp
section
variable {X : Cx} {S0 : Sto} {H0 : Hp} {pos p : Pos} {e : Expr} {es : List Expr} {fs : PFs} {k : Nat} {psp : PSp} {x : Str} {dps : List Pv}
theorem pv_cal (c : Cal X.prog X.w X.K X.mg X.base k x dps psp) (hr : Room k X.A) (hgu : X.A.guards = some []) (ha : PVs X S0 H0 (e :: es) fs) (hg : Gl X x := by rfl) (hdb : (x == ("__debug__" : Str)) = false := by decide)
    (he : starEach (e :: es) X.env = (false, eval e X.env) :: starEach es X.env := by rfl) (hpl : (backTo pos (starEach es X.env)).any (·.1) = false := by rfl) : PV X S0 H0 (.Call (.Name x p) (e :: es) [] pos) (fCall psp dps noE fs) := by
  obtain ⟨f, fd, ps, ds, dvs, h1, h2, h3, h4, h5, F⟩ := c.ex
  exact pv_call F hr hgu h1 h2 h3 h4 h5 ha hg hdb he hpl
theorem pv_calE {E : XK} {Ep : QE} (c : Cal X.prog X.w X.K X.mg X.base k x dps psp) (hr : Room k X.A) (hgu : X.A.guards = some []) (tk : Takes X (fun cls d _ H => E cls d H)) (hE : ∀ c C S' H', Ep c S' → X.mg c = some (.ref C) → RepS X.K H' S' → Ext S0 H0 S' H' → E (.ref C) none H') (ha : PVs X S0 H0 (e :: es) fs) (hg : Gl X x := by rfl) (hdb : (x == ("__debug__" : Str)) = false := by decide)
    (he : starEach (e :: es) X.env = (false, eval e X.env) :: starEach es X.env := by rfl) (hpl : (backTo pos (starEach es X.env)).any (·.1) = false := by rfl) : PV X S0 H0 (.Call (.Name x p) (e :: es) [] pos) (fCall psp dps Ep fs) := by
  obtain ⟨f, fd, ps, ds, dvs, h1, h2, h3, h4, h5, F⟩ := c.ex
  exact pv_callG F hr hgu h1 h2 h3 h4 h5 (passes_call tk fun _ _ _ _ h => h) hE ha hg hdb he hpl
def gNever : PFS := fun _ _ _ => False
theorem pz_never {st : Stmt} : PZ X S0 H0 st gNever := ⟨fun _ _ _ _ _ h => h, PS.imp ps_never fun _ _ _ ⟨_, _, _, _, _, h⟩ => h⟩
theorem pv_dict0 : PV X S0 H0 (.Dict [] [] pos) (fC (.dct [] [])) := by
  refine ⟨fun _ _ _ _ h q => h _ _ q, PE.imp pe_dnewK fun σ H Q ⟨ρ, S, re, rs, ex, q⟩ d nd => ?_⟩
  exact q _ _ ⟨d, [], rfl, .inl upd_same, rs.fr nd, rfl, rfl⟩ (rs.newT nd) (Ext.newT (K := X.K) nd)
theorem pz_par3 (i j l : Nat) {x y z : Str} {a b c : Expr} {px py pz pt pt2 : Pos} {kt k2 : Nat} (hc : X.calm = true) (hN : X.N.Nodup) (hv : PVs X S0 H0 [a, b, c] fs) (hi : X.N[i]? = some x := by rfl) (hj : X.N[j]? = some y := by rfl) (hl : X.N[l]? = some z := by rfl) (hij : i ≠ j := by decide) (hil : i ≠ l := by decide) (hjl : j ≠ l := by decide)
    (hx : X.env.scope.names.lookup x = some .local := by rfl) (hy : X.env.scope.names.lookup y = some .local := by rfl) (hz : X.env.scope.names.lookup z = some .local := by rfl)
    (hw : swappedStores [.Tuple [.Name x px, .Name y py, .Name z pz] kt pt] (.Tuple [a, b, c] k2 pt2) X.env = pure (some [x, y, z]) := by rfl) (hs : swapsWithSole [.Tuple [.Name x px, .Name y py, .Name z pz] kt pt] (.Tuple [a, b, c] k2 pt2) pos.line X.env = pure false := by rfl) :
    PZ X S0 H0 (.Assign [.Tuple [.Name x px, .Name y py, .Name z pz] kt pt] (.Tuple [a, b, c] k2 pt2) pos) (gPar3 i j l fs) := by
  refine ⟨fun D D' ρ S l q => hv.mono _ _ _ _ (fun ps S1 q => ?_) q, PS.imp (ps_par3 hc hN hi hj hl hij hil hjl hx hy hz hv.pa hw hs) fun D σ H ⟨ρ, S, re, rs, ex, q⟩ => ?_⟩
  · split at q
    · exact l.1 _ _ q
    · exact q
  · refine ⟨ρ, S, re, rs, ex, hv.mono _ _ _ _ (fun ps S1 q vs H1 rv rs1 ex1 => ?_) q⟩
    split at q
    · obtain ⟨v, r, e1, r1, r2⟩ := rv
      obtain ⟨v2, v3, rfl, r3, r4⟩ := r2.two
      exact ⟨v, v2, v3, e1, q _ H1 ((((re.ext rs ex1).set i r1).set j r3).set l r4) rs1 ex1⟩
    · exact q.elim
end
/-! ### names of the module that are data -/
def KReps (K : PySem.W.Frag) (ps : List Pv) (us : List Value) : Prop := ∃ vs, Vals vs us ∧ ∀ H S, RepVs K H S ps vs
theorem KReps.nil {K : PySem.W.Frag} : KReps K [] [] := ⟨[], .nil, fun _ _ => rfl⟩
theorem KReps.cons {K : PySem.W.Frag} {p : Pv} {ps : List Pv} {u : Value} {us : List Value} (h : KRep K p u) (h' : KReps K ps us) : KReps K (p :: ps) (u :: us) := by
  obtain ⟨v, r, q⟩ := h
  obtain ⟨vs, rs, qs⟩ := h'
  exact ⟨v :: vs, .cons r rs, fun H S => ⟨v, vs, rfl, q H S, qs H S⟩⟩
theorem KRep.int {K : PySem.W.Frag} {i : Int} {t} : KRep K (.int i) (.int i t) := ⟨.int i, ⟨t, rfl⟩, fun _ _ => rfl⟩
theorem KRep.str {K : PySem.W.Frag} {i : Str} {t} : KRep K (.str i) (.str i t) := ⟨.str i, ⟨t, rfl⟩, fun _ _ => rfl⟩
theorem KRep.bl {K : PySem.W.Frag} {b : Bool} : KRep K (.bl b) (.bool b) := ⟨.bl b, rfl, fun _ _ => rfl⟩
theorem KRep.tup {K : PySem.W.Frag} {a : Addr} {d : Option Addr} {its : Array Value} {n : Nat} {sl : Array (Option Value)} {ps : List Pv} (h : K.lookup a = some ⟨.type "tuple", d, .seq its n, sl⟩) (h' : KReps K ps its.toList) (l : Nat.ble its.size 1000 = true := by rfl) : KRep K (.tup ps) (.ref a) := by
  obtain ⟨vs, rs, qs⟩ := h'
  exact ⟨.ref a, rfl, fun H S => ⟨a, vs, rfl, .inr ⟨_, its, n, h, rfl, rfl, Nat.le_trans (Nat.le_of_ble_eq_true l) (by decide), rs⟩, qs H S⟩⟩
/-- a def some of whose defaults fill up -/
theorem calD {P : Program} {w : World} {K : PySem.W.Frag} {mg : Str → Option Value} {base : Heap} {k : Nat} {x : Str} {dps : List Pv} {psp : PSp} {f : Addr} {fd : FuncData} {ps : List Str} {ds : List Value} (hm : mg x = some (.ref f)) (hk : PySem.W.keepIn K (.ref f) = true) (hb : Binds K fd ps ds) (hd : KReps K dps ds) (G : FnG P w K mg base k f fd ps psp) : Cal P w K mg base k x dps psp := by
  obtain ⟨vs, rs, qs⟩ := hd
  exact ⟨⟨f, fd, ps, ds, vs, hm, hk, hb, rs, qs, G⟩⟩
/-- what is known of an exception class of the program -/
structure Rz (K : PySem.W.Frag) (mg : Str → Option Value) (x : Str) (C : Addr) : Prop where
  gC : mg x = some (.ref C)
  exc : PySem.W.excIn K C [.type "ValueError", .type "Exception", .type "BaseException", .type "object"] "ValueError.__new__" = true
  kC : PySem.W.keepIn K (.ref C) = true
  bC : PySem.W.subIn K (.ref C) (.type "BaseException") = some true
  tC : PySem.W.typeIn K (.ref C) = some (.type "type")
end PL
namespace PL
open PySem PySem.Spec PyProof.Rows L2
/-! ### calls by keywords alone -/
def prm {α : Type} (is : List Nat) (ws : List α) : List α := is.filterMap fun i => ws[i]?
theorem RepVs.prm {K : PySem.W.Frag} {H : Hp} {S : Sto} {ps : List Pv} {vs : List V} (r : RepVs K H S ps vs) : ∀ is : List Nat, RepVs K H S (PL.prm is ps) (PL.prm is vs)
  | [] => rfl
  | i :: is => by
    have ih := RepVs.prm r is
    unfold PL.prm at *
    cases h : ps[i]? with
    | none =>
      have h' : vs[i]? = none := by
        rw [List.getElem?_eq_none_iff] at h ⊢
        rw [r.len]; exact h
      rw [List.filterMap_cons_none h, List.filterMap_cons_none h']
      exact ih
    | some p =>
      obtain ⟨v, h', rv⟩ := r.get h
      rw [List.filterMap_cons_some h, List.filterMap_cons_some h']
      exact ⟨v, _, rfl, rv, ih⟩
theorem Vals.prm {vs : List V} {us : List Value} (r : Vals vs us) : ∀ is : List Nat, Vals (PL.prm is vs) (PL.prm is us)
  | [] => .nil
  | i :: is => by
    have ih := Vals.prm r is
    have g : ∀ {vs : List V} {us : List Value} (i : Nat), Vals vs us → (vs[i]? = none ∧ us[i]? = none) ∨ ∃ v u, vs[i]? = some v ∧ us[i]? = some u ∧ RelV v u := by
      intro vs us i r
      induction r generalizing i with
      | nil => exact .inl ⟨rfl, rfl⟩
      | cons a b ih =>
        cases i with
        | zero => exact .inr ⟨_, _, rfl, rfl, a⟩
        | succ i => simpa using ih i
    unfold PL.prm at *
    rcases g i r with ⟨h, h'⟩ | ⟨v, u, h, h', rv⟩
    · rw [List.filterMap_cons_none h, List.filterMap_cons_none h']; exact ih
    · rw [List.filterMap_cons_some h, List.filterMap_cons_some h']; exact .cons rv ih
structure PKs (X : Cx) (S0 : Sto) (H0 : Hp) (ks : List Keyword) (f : PFs) : Prop where
  mono : ∀ ρ S Q Q', (∀ p S', Q p S' → Q' p S') → f ρ S Q → f ρ S Q'
  pk : PK X ks (liftA X.K S0 H0 f)
theorem PK.imp {X : Cx} {e : List Keyword} {t t' : TA} (h : PK X e t) (i : ∀ σ H Q, t' σ H Q → t σ H Q) : PK X e t' := ⟨fun pos pins s σ H Q I q => h.run pos pins s σ H Q I (i σ H Q q)⟩
section
variable {X : Cx} {S0 : Sto} {H0 : Hp}
theorem pks_nil : PKs X S0 H0 [] fNil := ⟨fun _ _ _ _ h q => h _ _ q, PK.imp pk_nil fun _ H Q ⟨_, S, _, rs, _, q⟩ => q [] H rfl rs (Ext.refl S H)⟩
theorem pks_cons {e : Expr} {ks : List Keyword} {f : PF} {g : PFs} {nm : Option Str} {kp : Pos} (h1 : PV X S0 H0 e f) (h2 : PKs X S0 H0 ks g) : PKs X S0 H0 (⟨nm, e, kp⟩ :: ks) (fCons f g) := by
  refine ⟨fun ρ S Q Q' h q => h1.mono _ _ _ _ (fun p S1 q => h2.mono _ _ _ _ (fun ps S2 q => h _ _ q) q) q, PK.imp (pk_cons h1.pe h2.pk) fun σ H Q ⟨ρ, S, re, rs, ex, q⟩ => ?_⟩
  refine ⟨ρ, S, re, rs, ex, h1.mono _ _ _ _ (fun p S1 q v H1 rv rs1 ex1 => ?_) q⟩
  refine ⟨ρ, S1, re.ext rs ex1, rs1, ex.trans ex1, h2.mono _ _ _ _ (fun ps S2 q vs H2 rvs rs2 ex2 => ?_) q⟩
  exact q (v :: vs) H2 ⟨v, vs, rfl, RepV.ext rs1 ex2 p v rv, rvs⟩ rs2 (ex1.trans ex2)
end
def fCallK (psp : PSp) (n : Nat) (is : List Nat) (Ep : QE) (fs : PFs) : PF := fun ρ S Q => fs ρ S fun xs S1 => xs.length = n ∧ psp (prm is xs) S1 Q Ep
structure CalK (P : Program) (w : World) (K : PySem.W.Frag) (mg : Str → Option Value) (base : Heap) (k : Nat) (x : Str) (ks : List Str) (is : List Nat) (psp : PSp) : Prop where
  ex : ∃ (f : Addr) (fd : FuncData) (ps : List Str), mg x = some (.ref f) ∧ PySem.W.keepIn K (.ref f) = true ∧ (∀ (s : Shared) (ws : List Value), ws.length = ks.length → BindsTo s fd ⟨[], ks.zip ws⟩ (ps.zip (prm is ws))) ∧ FnG P w K mg base k f fd ps psp
theorem kbinds {K : PySem.W.Frag} {x qual : Str} {st : Stmt} {f : Addr} {fd : FuncData} {ps ks : List Str} {is : List Nat} {dV : Value} (F : FunV K x qual st dV f fd)
    (h : ∀ (kV doc pm : Value) (an : Option Addr) (cdv ct : Value) (ws : List Value), ws.length = ks.length → bindArgs (PySem.W.fnOf x qual (defArgs st) (defBody st) (defScope st) dV kV doc pm an cdv ct) ⟨[], ks.zip ws⟩ = pure (ps.zip (prm is ws))) : ∀ (s : Shared) (ws : List Value), ws.length = ks.length → BindsTo s fd ⟨[], ks.zip ws⟩ (ps.zip (prm is ws)) := by
  obtain ⟨oc, od, kV, doc, pm, an, cdv, ct, osl, rfl, lk, hcd⟩ := F.ex
  exact fun s ws hl => .of_eq (h kV doc pm an cdv ct ws hl)
section
variable {X : Cx} {S0 : Sto} {H0 : Hp} {pos p : Pos} {kws : List Keyword} {fs : PFs} {k : Nat} {psp : PSp} {x : Str} {ks : List Str} {is : List Nat}
theorem pv_calK (c : CalK X.prog X.w X.K X.mg X.base k x ks is psp) (hr : Room k X.A) (hgu : X.A.guards = some []) (ha : PKs X S0 H0 kws fs) (hg : Gl X x := by rfl) (hdb : (x == ("__debug__" : Str)) = false := by decide)
    (hall : (backToKw pos (keywordEach kws X.env)).all (·.1.isSome) = true := by rfl) (hks : (backToKw pos (keywordEach kws X.env)).filterMap (·.1) = ks := by rfl)
    (hpl : ((backTo pos (starEach [] X.env)).any (·.1) || (backToKw pos (keywordEach kws X.env)).any (·.1.isNone)) = false := by rfl) : PV X S0 H0 (.Call (.Name x p) [] kws pos) (fCallK psp ks.length is noE fs) := by
  obtain ⟨f, fd, ps, hm, hk, hb, F⟩ := c.ex
  refine ⟨fun ρ S Q Q' i q => ha.mono _ _ _ _ (fun xs S1 q => ⟨q.1, F.mono _ _ _ _ _ _ i (fun _ _ h => h) q.2⟩) q, ⟨fun pins s σ H Q I h => ?_⟩⟩
  obtain ⟨ρ, S, re, rs, ex, q⟩ := h
  refine wpAny_Call_Name_kw (ld_glob I hg hm ?_ hdb)
  refine PySem.W.callWith_KW0 (h₀ := X.base) I.ok.mod.kin hk hall (thn (ha.pk.run pos pins s σ H (fun vs H1 => vs.length = ks.length ∧ liftSp X.K X.mg psp (prm is vs) H1 Q (fun _ _ _ => False)) I ?_) fun us s1 ⟨vs, H1, I1, r1, q1⟩ => ⟨I1.kIn, ?_⟩) hpl
  · refine ⟨ρ, S, re, rs, ex, ha.mono _ _ _ _ (fun xs S1 q vs H1 rv rs1 ex1 => ?_) q⟩
    exact ⟨rv.len.trans q.1, prm is xs, S1, rv.prm is, rs1, F.mono _ _ _ _ _ _ (fun p S' q v H' a1 a2 a3 => q v H' a1 a2 (ex1.trans a3)) (fun _ _ h => h.elim) q.2⟩
  · rw [hks]
    obtain ⟨ql, q1⟩ := q1
    have r2 := Vals.prm r1 is
    refine wpAny_call (codeAny_mono (F.run X.A X.stack s1 H1 ⟨[], ks.zip us⟩ _ _ Q (fun _ _ _ => False) hr hgu I1.env0 (hb s1 us (by rw [← r1.length]; exact ql)) r2 q1) fun res s2 hq => ?_)
    cases res with
    | error er => exact passL pins σ H1 s1 er s2 I1 hq
    | ok fl =>
      cases fl with
      | ret u => exact I1.after hq
      | _ => exact False.elim hq
end
end PL

/-! Methods of texts. -/
namespace PL
open PySem PySem.Spec PyProof.Rows L2
def isS : Pv → Bool
  | .str _ => true
  | _ => false
theorem isS_rep {K : PySem.W.Frag} {H : Hp} {S : Sto} {x : Pv} {v : V} (h : isS x = true) (r : RepV K H S x v) : ∃ a, v = .str a := by
  cases x with
  | str a => exact ⟨a, r⟩
  | _ => cases h
/-- o.m(e), o a text -/
def fMs (o : O2) (fa fb : PF) : PF := fun ρ S Q => fa ρ S fun x S1 => isS x = true ∧ fb ρ S1 fun y S2 => o x y S2 Q
/-- o.m() -/
def fMs0 (o : O1) (fa : PF) : PF := fun ρ S Q => fa ρ S fun x S1 => isS x = true ∧ o x S1 Q
section
variable {X : Cx} {S0 : Sto} {H0 : Hp} {a b : Expr} {fa fb : PF} {pos apos : Pos}
theorem pv_m1 {id : String} {name : Str} {r : V → List V → Hp → VK → Prop} {o : O2} (slot : Slot "str" name id) (ty : typeOf (.builtin id) = pure (.type "method_descriptor")) (rule : MtR X id r) (s : Sim2 X.K (fun v u H Q => r v [u] H Q) o) (ha : PV X S0 H0 a fa) (hb : PV X S0 H0 b fb)
    (hs : starEach [b] X.env = [(false, eval b X.env)] := by rfl) (hbase : attributeBase a name X.env (eval a X.env) = eval a X.env := by rfl) (hline : (apos.endLine == pos.line) = true := by rfl) : PV X S0 H0 (.Call (.Attribute a name apos) [b] [] pos) (fMs o fa fb) := by
  refine ⟨fun ρ S Q Q' i q => ha.mono _ _ _ _ (fun x S1 q => ⟨q.1, hb.mono _ _ _ _ (fun y S2 q => s.mono _ _ _ _ _ i q) q.2⟩) q, PE.imp (pe_m1 slot ty rule ha.pe hb.pe hs hbase hline) fun σ H Q ⟨ρ, S, re, rs, ex, q⟩ => ?_⟩
  refine ⟨ρ, S, re, rs, ex, ha.mono _ _ _ _ (fun p S1 q v H1 rv rs1 ex1 => ⟨isS_rep q.1 rv, ?_⟩) q⟩
  refine ⟨ρ, S1, re.ext rs ex1, rs1, ex.trans ex1, hb.mono _ _ _ _ (fun p' S2 q u H2 ru rs2 ex2 => ?_) q.2⟩
  exact s.run p p' S2 _ v u H2 Q (RepV.ext rs1 ex2 p v rv) ru rs2 q fun p' S' z H' q rz rs' ex' => q z H' rz rs' ((ex1.trans ex2).trans ex')
theorem pv_m0 {id : String} {name : Str} {r : V → List V → Hp → VK → Prop} {o : O1} (slot : Slot "str" name id) (ty : typeOf (.builtin id) = pure (.type "method_descriptor")) (rule : MtR X id r) (s : Sim1 X.K (fun v H Q => r v [] H Q) o) (ha : PV X S0 H0 a fa)
    (hbase : attributeBase a name X.env (eval a X.env) = eval a X.env := by rfl) (hline : (apos.endLine == pos.line) = true := by rfl) : PV X S0 H0 (.Call (.Attribute a name apos) [] [] pos) (fMs0 o fa) := by
  refine ⟨fun ρ S Q Q' i q => ha.mono _ _ _ _ (fun x S1 q => ⟨q.1, s.mono _ _ _ _ i q.2⟩) q, PE.imp (pe_m0 slot ty rule ha.pe hbase hline) fun σ H Q ⟨ρ, S, re, rs, ex, q⟩ => ?_⟩
  refine ⟨ρ, S, re, rs, ex, ha.mono _ _ _ _ (fun p S1 q v H1 rv rs1 ex1 => ⟨isS_rep q.1 rv, ?_⟩) q⟩
  exact s.run p S1 _ v H1 Q rv rs1 q.2 fun p' S' z H' q rz rs' ex' => q z H' rz rs' (ex1.trans ex')
/-! ### join, index, startswith, count, upper -/
def allS : List Pv → Option (List Str)
  | [] => some []
  | .str z :: ps => (allS ps).map (z :: ·)
  | _ => none
theorem allS_rep {K : PySem.W.Frag} {H : Hp} {S : Sto} : ∀ {ps : List Pv} {vs : List V} {zs : List Str}, RepVs K H S ps vs → allS ps = some zs → vs = zs.map V.str
  | [], vs, zs, r, e => by
    have e1 : vs = [] := r
    cases e
    exact e1
  | .str z :: ps, vs, zs, ⟨v, w, e1, r1, r2⟩, e => by
    simp only [allS, Option.map_eq_some_iff] at e
    obtain ⟨ys, e2, rfl⟩ := e
    rw [e1, show v = _ from r1, allS_rep r2 e2]
    rfl
  | .non :: _, _, _, _, e => by cases e
  | .bl _ :: _, _, _, _, e => by cases e
  | .int _ :: _, _, _, _, e => by cases e
  | .tup _ :: _, _, _, _, e => by cases e
  | .lst _ :: _, _, _, _, e => by cases e
  | .dct _ _ :: _, _, _, _, e => by cases e
  | .ref _ :: _, _, _, _, e => by cases e
  | .ty _ :: _, _, _, _, e => by cases e
  | .scr _ :: _, _, _, _, e => by cases e
def oJoin : O2 := fun x y S Q => match x with
  | .str a => (match (seqP S y).bind allS with
    | some ys => (ys.map (·.length)).sum + ys.length * a.length ≤ 16777216 ∧ Q (.str (Txt.join a ys)) S
    | none => False)
  | _ => False
theorem pv_join (ha : PV X S0 H0 a fa) (hb : PV X S0 H0 b fb) (hs : starEach [b] X.env = [(false, eval b X.env)] := by rfl) (hbase : attributeBase a "join" X.env (eval a X.env) = eval a X.env := by rfl) (hline : (apos.endLine == pos.line) = true := by rfl) :
    PV X S0 H0 (.Call (.Attribute a "join" apos) [b] [] pos) (fMs oJoin fa fb) := by
  refine pv_m1 F.slot_str_join F.type_str_join mt_join ⟨fun x y S Q Q' h q => ?_, fun x y S Qp v u H Q rx ry rs h k => ?_⟩ ha hb hs hbase hline
  · unfold oJoin at q ⊢
    split at q
    · split at q
      · exact ⟨q.1, h _ _ q.2⟩
      · exact q
    · exact q
  · unfold oJoin at h
    split at h
    · rename_i x
      split at h
      · rename_i ys e
        obtain ⟨xs, e1, e2⟩ := Option.bind_eq_some_iff.mp e
        obtain ⟨p, vs, rfl, hq, r⟩ := seq_rep rs ry e1
        have e3 := allS_rep r e2
        subst e3
        exact ⟨x, p, ys, rx, rfl, hq, h.1, k _ S _ H h.2 rfl rs (Ext.refl S H)⟩
      · exact h.elim
    · exact h.elim
def oSIdx : O2 := fun x y S Q => match x, y with
  | .str a, .str b => (match Builtin.Str.occurrences a b 0 a.length 1 with
    | i :: _ => Q (.int (i : Nat)) S
    | [] => False)
  | _, _ => False
theorem pv_sindex (ha : PV X S0 H0 a fa) (hb : PV X S0 H0 b fb) (hs : starEach [b] X.env = [(false, eval b X.env)] := by rfl) (hbase : attributeBase a "index" X.env (eval a X.env) = eval a X.env := by rfl) (hline : (apos.endLine == pos.line) = true := by rfl) :
    PV X S0 H0 (.Call (.Attribute a "index" apos) [b] [] pos) (fMs oSIdx fa fb) := by
  refine pv_m1 F.slot_str_index F.type_str_index mt_sindex ⟨fun x y S Q Q' h q => ?_, fun x y S Qp v u H Q rx ry rs h k => ?_⟩ ha hb hs hbase hline
  · unfold oSIdx at q ⊢
    split at q
    · split at q
      · exact h _ _ q
      · exact q
    · exact q
  · unfold oSIdx at h
    split at h
    · rename_i x y
      split at h
      · rename_i i rest e
        exact ⟨x, y, i, rest, rx, by rw [show u = _ from ry], e, k _ S _ H h rfl rs (Ext.refl S H)⟩
      · exact h.elim
    · exact h.elim
def oStarts : O2 := fun x y S Q => match x, y with
  | .str a, .str b => Q (.bl (Txt.startswith a b)) S
  | _, _ => False
theorem pv_starts (ha : PV X S0 H0 a fa) (hb : PV X S0 H0 b fb) (hs : starEach [b] X.env = [(false, eval b X.env)] := by rfl) (hbase : attributeBase a "startswith" X.env (eval a X.env) = eval a X.env := by rfl) (hline : (apos.endLine == pos.line) = true := by rfl) :
    PV X S0 H0 (.Call (.Attribute a "startswith" apos) [b] [] pos) (fMs oStarts fa fb) := by
  refine pv_m1 F.slot_str_startswith F.type_str_startswith mt_startswith ⟨fun x y S Q Q' h q => ?_, fun x y S Qp v u H Q rx ry rs h k => ?_⟩ ha hb hs hbase hline
  · unfold oStarts at q ⊢
    split at q <;> first | exact h _ _ q | exact q
  · unfold oStarts at h
    split at h
    · rename_i x y
      exact ⟨x, y, rx, by rw [show u = _ from ry], k _ S _ H h rfl rs (Ext.refl S H)⟩
    · exact h.elim
def oSCnt : O2 := fun x y S Q => match x, y with
  | .str a, .str b => Q (.int (Txt.count a b)) S
  | _, _ => False
theorem pv_scount (ha : PV X S0 H0 a fa) (hb : PV X S0 H0 b fb) (hs : starEach [b] X.env = [(false, eval b X.env)] := by rfl) (hbase : attributeBase a "count" X.env (eval a X.env) = eval a X.env := by rfl) (hline : (apos.endLine == pos.line) = true := by rfl) :
    PV X S0 H0 (.Call (.Attribute a "count" apos) [b] [] pos) (fMs oSCnt fa fb) := by
  refine pv_m1 F.slot_str_count F.type_str_count mt_count ⟨fun x y S Q Q' h q => ?_, fun x y S Qp v u H Q rx ry rs h k => ?_⟩ ha hb hs hbase hline
  · unfold oSCnt at q ⊢
    split at q <;> first | exact h _ _ q | exact q
  · unfold oSCnt at h
    split at h
    · rename_i x y
      exact ⟨x, y, rx, by rw [show u = _ from ry], k _ S _ H h rfl rs (Ext.refl S H)⟩
    · exact h.elim
def oUpper : O1 := fun x S Q => match x with
  | .str a => a.length ≤ 5592405 ∧ Q (.str (Txt.upper a)) S
  | _ => False
theorem pv_upper (ha : PV X S0 H0 a fa) (hbase : attributeBase a "upper" X.env (eval a X.env) = eval a X.env := by rfl) (hline : (apos.endLine == pos.line) = true := by rfl) :
    PV X S0 H0 (.Call (.Attribute a "upper" apos) [] [] pos) (fMs0 oUpper fa) := by
  refine pv_m0 F.slot_str_upper F.type_str_upper mt_upper ⟨fun x S Q Q' h q => ?_, fun x S Qp v H Q rx rs h k => ?_⟩ ha hbase hline
  · unfold oUpper at q ⊢
    split at q
    · exact ⟨q.1, h _ _ q.2⟩
    · exact q
  · unfold oUpper at h
    split at h
    · rename_i x
      exact ⟨x, rx, rfl, h.1, k _ S _ H h.2 rfl rs (Ext.refl S H)⟩
    · exact h.elim
end
end PL

/-! The pure layer, part 8: slots that nobody asks for any more are forgotten. -/
namespace PL
open PySem PySem.Spec PyProof.Rows L2
theorem RepE.forget {K : PySem.W.Frag} {H : Hp} {S : Sto} {σ : L2.St} {ρ : Env'} (r : RepE K H S σ ρ) : ∀ vs : List Nat, RepE K H S σ (wipeP ρ vs)
  | [] => r
  | v :: vs => by
    have ih := RepE.forget r vs
    refine ⟨by show σ.length = ((wipeP ρ vs).set v none).length; rw [List.length_set]; exact ih.1, fun i p h => ?_⟩
    have h' : ((wipeP ρ vs).set v none)[i]? = some (some p) := h
    by_cases hi : v = i
    · subst hi
      rw [List.getElem?_set] at h'
      simp only [if_true] at h'
      split at h' <;> cases h'
    · rw [List.getElem?_set_ne hi] at h'
      exact ih.2 i p h'
def wE (ws : List Nat) (D : Ends') : Ends' := { nx := fun ρ S => D.nx (wipeP ρ ws) S, rt := D.rt, bk := fun ρ S => D.bk (wipeP ρ ws) S, ct := fun ρ S => D.ct (wipeP ρ ws) S }
def gEnd (ws : List Nat) (g : PFS) : PFS := fun D ρ S => g (wE ws D) ρ S
def gBeg (ws : List Nat) (g : PFS) : PFS := fun D ρ S => g D (wipeP ρ ws) S
section
variable {X : Cx} {S0 : Sto} {H0 : Hp} {st : Stmt} {sts : List Stmt} {g : PFS} {pos : Pos}
theorem gEnd_mono {ws : List Nat} (m : ∀ D D' ρ S, Ends'.le D D' → g D ρ S → g D' ρ S) : ∀ D D' ρ S, Ends'.le D D' → gEnd ws g D ρ S → gEnd ws g D' ρ S := fun D D' ρ S l q =>
  m (wE ws D) (wE ws D') ρ S ⟨fun ρ _ q => l.1 (wipeP ρ ws) _ q, l.2.1, fun ρ _ q => l.2.2.1 (wipeP ρ ws) _ q, fun ρ _ q => l.2.2.2 (wipeP ρ ws) _ q⟩ q
theorem lE_forget {K : PySem.W.Frag} {S : Sto} {H : Hp} {D : Ends} {ws : List Nat} : Ends'.le (wE ws (lE K S H D)) (lE K S H D) :=
  ⟨fun _ _ q σ' H' a1 a2 a3 => q σ' H' (a1.forget ws) a2 a3, fun _ _ q => q, fun _ _ q σ' H' a1 a2 a3 => q σ' H' (a1.forget ws) a2 a3, fun _ _ q σ' H' a1 a2 a3 => q σ' H' (a1.forget ws) a2 a3⟩
theorem pzs_end (ws : List Nat) (h : PZs X S0 H0 sts g) : PZs X S0 H0 sts (gEnd ws g) :=
  ⟨gEnd_mono h.mono, PSs.imp h.pss fun D σ H ⟨ρ, S, re, rs, ex, q⟩ => ⟨ρ, S, re, rs, ex, h.mono _ _ _ _ lE_forget q⟩⟩
theorem pz_end (ws : List Nat) (h : PZ X S0 H0 st g) : PZ X S0 H0 st (gEnd ws g) :=
  ⟨gEnd_mono h.mono, PS.imp h.ps fun D σ H ⟨ρ, S, re, rs, ex, q⟩ => ⟨ρ, S, re, rs, ex, h.mono _ _ _ _ lE_forget q⟩⟩
theorem pz_beg (ws : List Nat) (h : PZ X S0 H0 st g) : PZ X S0 H0 st (gBeg ws g) :=
  ⟨fun D D' ρ S l q => h.mono _ _ _ _ l q, PS.imp h.ps fun D σ H ⟨ρ, S, re, rs, ex, q⟩ => ⟨wipeP ρ ws, S, re.forget ws, rs, ex, q⟩⟩
theorem pzs_beg (ws : List Nat) (h : PZs X S0 H0 sts g) : PZs X S0 H0 sts (gBeg ws g) :=
  ⟨fun D D' ρ S l q => h.mono _ _ _ _ l q, PSs.imp h.pss fun D σ H ⟨ρ, S, re, rs, ex, q⟩ => ⟨wipeP ρ ws, S, re.forget ws, rs, ex, q⟩⟩
end
/-- a loop that carries no slot: what holds of the store -/
theorem forW_c {gd : Sto → Prop} {t : Tg} {b : PFS} {D : Ends'} {ρ0 : Env'} {P : Pv → Prop} (J : Sto → Prop) {its : List Pv} {S : Sto} (hP : ∀ x ∈ its, P x) (h0 : J S) (fin : ∀ S, J S → gd S ∧ D.nx ρ0 S)
    (step : ∀ x, P x → ∀ (k : Env' → Sto → Prop), (∀ S, J S → k ρ0 S) → ∀ S, J S → gd S ∧ match bindT S t x ρ0 with | some ρ' => b { nx := k, rt := D.rt, bk := D.nx, ct := k } ρ' S | none => False) : forW gd t b D its ρ0 S := by
  have main : ∀ (its : List Pv) (S : Sto), (∀ x ∈ its, P x) → J S → forW gd t b D its ρ0 S := by
    intro its
    induction its with
    | nil => exact fun S _ h => fin S h
    | cons x xs ih => exact fun S hP h => step x (hP x List.mem_cons_self) (forW gd t b D xs) (fun S' h' => ih S' (fun y hy => hP y (List.mem_cons_of_mem _ hy)) h') S h
  exact main its S hP h0
/-- .. what has been walked is known -/
theorem forW_a {α : Type} {gd : Sto → Prop} {t : Tg} {b : PFS} {D : Ends'} (g : α → Pv) (all : List α) (E : List α → Env') (J : List α → Sto → Prop) {its : List Pv} {ρ0 : Env'} {S : Sto} (e : its = all.map g) (e0 : ρ0 = E []) (h0 : J [] S) (fin : ∀ S, J all S → gd S ∧ D.nx (E all) S)
    (step : ∀ (pre : List α) (x : α) (post : List α), pre ++ x :: post = all → ∀ (k : Env' → Sto → Prop), (∀ S, J (pre ++ [x]) S → k (E (pre ++ [x])) S) → ∀ S, J pre S → gd S ∧ match bindT S t (g x) (E pre) with | some ρ' => b { nx := k, rt := D.rt, bk := D.nx, ct := k } ρ' S | none => False) : forW gd t b D its ρ0 S := by
  subst e e0
  have main : ∀ (pre xs : List α) (S : Sto), pre ++ xs = all → J pre S → forW gd t b D (xs.map g) (E pre) S := by
    intro pre xs
    induction xs generalizing pre with
    | nil => intro S e h; rw [List.append_nil] at e; subst e; exact fin S h
    | cons x xs ih => exact fun S e h => step pre x xs e (forW gd t b D (xs.map g)) (fun S' h' => ih (pre ++ [x]) S' (by rw [List.append_assoc]; exact e) h') S h
  exact main [] all S rfl h0
end PL

/-! The pure layer, part 9: sorted. -/
namespace PL
open PySem PySem.Spec PyProof.Rows L2
open PySem.W (dataLe dataLt alike AllAlike EachIs)
theorem DpAll.len {K : PySem.W.Frag} {H : Hp} : ∀ {vs : List V} {ds : List PyData}, DpAll K H vs ds → vs.length = ds.length
  | [], _, h => by cases h; rfl
  | _ :: _, _, h => by cases h with | cons _ h2 => rw [List.length_cons, List.length_cons, DpAll.len h2]
/-- sorted of data that are alike: in their order -/
def rSortD (K : PySem.W.Frag) : List V → Hp → VK → Prop := fun vs H Q => ∃ (a : Addr) (xs : List V) (ds : List PyData), vs = [V.ref a] ∧ SqL K H a xs ∧ DpAll K H xs ds ∧ AllAlike ds ∧ PySem.W.Sortable ds ∧ (∀ d ∈ ds, d.depth ≤ 60) ∧
  ∀ p, H p = none → Q (.ref p) (upd H p (.lst (((xs.zip ds).mergeSort (dataLe false (·.2))).map (·.1))))
section
variable {X : Cx} {pins : List (Addr × Obj)} {σ : L2.St} {H : Hp} {s : Shared}
theorem each_rel : ∀ {xs : List V} {us : List Value} {ds : List PyData}, Vals xs us → DpAll X.K H xs ds → EachIs (fun u (z : V × PyData) => RelV z.1 u) us (xs.zip ds)
  | [], us, ds, r, h => by cases h; cases r; exact .nil
  | _ :: _, us, ds, r, h => by
    cases h with
    | cons h1 h2 =>
      cases r with
      | cons r1 r2 => exact .cons r1 (each_rel r2 h2)
theorem each_reads (I : Inv X pins σ H s) : ∀ {xs : List V} {us : List Value} {ds : List PyData}, Vals xs us → DpAll X.K H xs ds → EachIs (fun u (z : V × PyData) => ∃ as, Reads s.heap u z.2 as) us (xs.zip ds)
  | [], us, ds, r, h => by cases h; cases r; exact .nil
  | _ :: _, us, ds, r, h => by
    cases h with
    | cons h1 h2 =>
      cases r with
      | cons r1 r2 => exact .cons (Dp.reads I _ _ _ h1 r1) (each_reads I r2 h2)
theorem each_vals : ∀ {us : List Value} {zs : List (V × PyData)}, EachIs (fun u (z : V × PyData) => RelV z.1 u) us zs → Vals (zs.map (·.1)) us
  | _, _, .nil => .nil
  | _, _, .cons h h2 => .cons h (each_vals h2)
theorem cr_sortD (hu : X.A.units + 64 < cLine) : CallR X (.builtin "sorted") (rSortD X.K) := by
  intro pins s σ H vs us Q I r h
  obtain ⟨a, xs, ds, rfl, hs, hd, al, so, dp, q⟩ := h
  obtain ⟨its, rv, hl, hz⟩ := I.list hs
  obtain ⟨u, rfl, ru⟩ := vals1 r
  obtain rfl : u = Value.ref a := ru
  have em : (xs.zip ds).map (·.2) = ds := List.map_snd_zip (by rw [DpAll.len hd]; exact Nat.le_refl _)
  have e1 : (xs.zip ds).length = xs.length := by rw [List.length_zip, ← DpAll.len hd, Nat.min_self]
  refine PySem.W.sorted_data (enc := fun z : V × PyData => z.2) (R := fun u (z : V × PyData) => RelV z.1 u) hl.isList (each_rel rv hd) (each_reads I rv hd) (by rw [em]; exact al) (by rw [em]; exact so) (by rw [e1]; exact hz) (fun b hb => ?_) fun out ho he => ?_
  · have := dp b.2 (by rw [← em]; exact List.mem_map.mpr ⟨b, hb, rfl⟩)
    omega
  · have rvo := each_vals he
    have hn : H (s.heap.objs.size + 1) = none := I.hok.fresh (Nat.le_succ _)
    obtain ⟨n, hn2⟩ := sortedAll_at s.heap its out.toArray
    refine ⟨.ref (s.heap.objs.size + 1), upd H (s.heap.objs.size + 1) (.lst (((xs.zip ds).mergeSort (dataLe false (·.2))).map (·.1))), I.laid (t' := s.toks) (fun b o e => sortedAll_old e) (Nat.le_succ _) ⟨?_, out, n, rvo, hn2⟩, rfl, q _ hn⟩
    rw [List.length_map, List.length_mergeSort, e1]
    exact hz
end
namespace SortT
open PySem.W PySem.Builtin
section
variable {prog : Program} {w : World} {A : Around} {E : Value → Shared → Prop} {s : Shared}
theorem collect_tuple {l : Addr} {vs : List Value} {Q : List Value → Shared → Prop} (hl : s.heap.IsTuple l vs.toArray)
    (h : Q vs { s with heap := (s.heap.push (seqObj "list" #[] 0)).update s.heap.objs.size (Obj.mapSeq (· ++ vs.toArray)) }) (hsz : vs.length ≤ sizeLine) :
    wpAny (model prog w) A (collect (.ref l)) Q E s := by
  obtain ⟨o, ho, hc, n, hd⟩ := id hl
  unfold collect
  refine wpAny_bind (wpAny_runValue (codeAny_builtin entry_proto_collect' ?_))
  show wpAny _ _ (do again (.builtin "list.__iadd__" ⟨[← newList [], .ref l], []⟩)) _ _ s
  refine wpAny_bind (wpAny_newList (wpAny_pure ⟨Code.quiet_builtin _ (by decide +kernel), codeAny_builtin entry_list_iadd' ?_⟩))
  show wpAny _ _ (Builtin.List.listExtendWith (.ref s.heap.objs.size) (.ref l) (.ref s.heap.objs.size)) _ _ { s with heap := s.heap.push (seqObj "list" #[] 0) }
  unfold Builtin.List.listExtendWith
  have ho' : (s.heap.push (seqObj "list" #[] 0)).get? l = some o := Heap.get?_push_of_some _ ho
  refine wpAny_bind (wpAny_typeOf (T := "tuple") ⟨o, ho', hc⟩ ?_)
  have ht : (Value.type "tuple" == Value.type "tuple") = true := by rfl
  rw [if_pos (by rw [ht]; simp)]
  refine wpAny_bind (listItems_at ho' hd ?_)
  refine wpAny_bind (listItems_at (xs := #[]) (n := 0) (Heap.get?_push_size _ rfl) rfl ?_)
  rw [if_neg (by simp)]
  refine wpAny_bind (listUpdate_at (xs := #[]) (n := 0) (Heap.get?_push_size _ rfl) rfl ?_ (Nat.zero_le _) (by show (#[] ++ vs.toArray).size ≤ sizeLine + 1; simp only [Array.size_append, List.size_toArray, List.length_nil]; omega))
  refine wpAny_pure ?_
  show wpAny (model prog w) A (do
      let o ← load s.heap.objs.size
      match o.data with
      | .seq xs _ => pure xs.toList
      | _ => unsupported "internal:collect") Q E { s with heap := (s.heap.push (seqObj "list" #[] 0)).update s.heap.objs.size (Obj.mapSeq (· ++ vs.toArray)) }
  refine wpAny_bind (wpAny_load (get?_update_seq (Heap.get?_push_size _ rfl) _) ?_)
  show wpAny _ _ (pure ((#[] : Array Value) ++ vs.toArray).toList) Q E _
  rw [show ((#[] : Array Value) ++ vs.toArray).toList = vs by simp]
  exact wpAny_pure h
theorem sorted_of_sortT {l : Addr} {vs : List Value} {kw : List (Str × Value)} {Q : Value → Shared → Prop} (hl : s.heap.IsTuple l vs.toArray) (hL : vs.length ≤ sizeLine) (ha1 : argsOk "sorted" ⟨[.ref l], kw⟩) (ha2 : ∀ x, argsOk "list.sort" ⟨[.ref x], kw⟩)
    (body : ∀ E' : Value → Shared → Prop, wpAny (model prog w) A.in1.in1 (Builtin.«list.sort» ⟨[.ref (s.heap.objs.size + 1)], kw⟩) (fun f s' => f = .done (.ret .none) ∧ Q (.ref (s.heap.objs.size + 1)) s') E' { s with heap := copyHeap s.heap vs }) :
    wpAny (model prog w) A (call (.builtin "sorted") [.ref l] kw) Q E s := by
  refine call_function_entry_kw kind_sorted plain_sorted entry_sorted ha1 ?_
  unfold Builtin.«sorted»
  refine wpAny_bind (m := checkCount "sorted" 1 1 _) (wpAny_pure ?_)
  refine wpAny_bind (collect_tuple hl ?_ hL)
  refine wpAny_bind (wpAny_newList ?_ hL)
  have hsz : ((s.heap.push (seqObj "list" #[] 0)).update s.heap.objs.size (Obj.mapSeq (· ++ vs.toArray))).objs.size = s.heap.objs.size + 1 := by
    rw [Heap.size_update, size_push']
  show wpAny _ _ _ _ _ { s with heap := copyHeap s.heap vs }
  rw [hsz]
  refine wpAny_bind (wpAny_holding (wpAny_call_entry_kw slot_list_sort ⟨_, copyHeap_at s.heap vs, rfl⟩ entry_list_sort ?body (ha2 _)))
  case body =>
    show wpAny (model prog w) A.in1.in1 (Builtin.«list.sort» ⟨[.ref (s.heap.objs.size + 1)], kw⟩) _ _ _
    refine wpAny_mono (body _) (fun f s' hf => ?_) fun _ _ e => e
    obtain ⟨rfl, hq⟩ := hf
    exact ⟨_, rfl, wpAny_pure ⟨_, rfl, hq⟩⟩
theorem sorted_dataT {β : Type} {vs : List Value} {bs : List β} {enc : β → PyData} {R : Value → β → Prop} {l : Addr} {Q : Value → Shared → Prop} (hl : s.heap.IsTuple l vs.toArray) (e : EachIs R vs bs) (er : EachIs (fun v b => ∃ as, Reads s.heap v (enc b) as) vs bs) (hal : AllAlike (bs.map enc)) (hk : PySem.W.Sortable (bs.map enc)) (hL : bs.length ≤ sizeLine)
    (hu : ∀ b, b ∈ bs → A.units + 2 + (enc b).depth < cLine) (h : ∀ out, out.length = bs.length → EachIs R out (bs.mergeSort (dataLe false enc)) → Q (.ref (s.heap.objs.size + 1)) { s with heap := sortedAll s.heap vs (List.toArray out) }) :
    wpAny (model prog w) A (call (.builtin "sorted") [.ref l]) Q E s := by
  have er' : EachIs (fun v b => ∃ as, Reads (sortingHeap (copyHeap s.heap vs) (s.heap.objs.size + 1) vs) v (enc b) as) vs bs := er.mono fun _ _ ⟨as, r⟩ => ⟨as, PyProof.Rows.Reads.keeps (fun _ _ => sorting_copy_old) r⟩
  have hL2 : vs.length ≤ sizeLine := by rw [e.length]; exact hL
  refine sorted_of_sortT hl hL2 (args_sorted1 _) (fun _ => args_list_sort _) fun _ => list_sort_vals (s := { s with heap := copyHeap s.heap vs }) (copyHeap_at s.heap vs) (SortsAt.data (s := { s with heap := sortingHeap (copyHeap s.heap vs) (s.heap.objs.size + 1) vs }) (each_map (R := fun v d => ∃ as, Reads (sortingHeap (copyHeap s.heap vs) (s.heap.objs.size + 1) vs) v d as) enc er') hal hk (bound_map hu)) hL2 ⟨rfl, ?_⟩
  exact h _ (by rw [sortVals_length false rfl]; exact e.length) (sortVals_data false e er' hal)
end
end SortT
section
variable {X : Cx} {pins : List (Addr × Obj)} {σ : L2.St} {H : Hp} {s : Shared}
def rSortT (K : PySem.W.Frag) : List V → Hp → VK → Prop := fun vs H Q => ∃ (a : Addr) (xs : List V) (ds : List PyData), vs = [V.ref a] ∧ SqT K H a xs ∧ DpAll K H xs ds ∧ AllAlike ds ∧ PySem.W.Sortable ds ∧ (∀ d ∈ ds, d.depth ≤ 60) ∧
  ∀ p, H p = none → Q (.ref p) (upd H p (.lst (((xs.zip ds).mergeSort (dataLe false (·.2))).map (·.1))))
theorem cr_sortT' (hu : X.A.units + 64 < cLine) : CallR X (.builtin "sorted") (rSortT X.K) := by
  intro pins s σ H vs us Q I r h
  obtain ⟨a, xs, ds, rfl, hs, hd, al, so, dp, q⟩ := h
  obtain ⟨its, rv, hl, hz⟩ := I.tuple hs
  obtain ⟨u, rfl, ru⟩ := vals1 r
  obtain rfl : u = Value.ref a := ru
  have em : (xs.zip ds).map (·.2) = ds := List.map_snd_zip (by rw [DpAll.len hd]; exact Nat.le_refl _)
  have e1 : (xs.zip ds).length = xs.length := by rw [List.length_zip, ← DpAll.len hd, Nat.min_self]
  refine SortT.sorted_dataT (enc := fun z : V × PyData => z.2) (R := fun u (z : V × PyData) => RelV z.1 u) hl (each_rel rv hd) (each_reads I rv hd) (by rw [em]; exact al) (by rw [em]; exact so) (by rw [e1]; exact hz) (fun b hb => ?_) fun out ho he => ?_
  · have := dp b.2 (by rw [← em]; exact List.mem_map.mpr ⟨b, hb, rfl⟩)
    omega
  · have rvo := each_vals he
    have hn : H (s.heap.objs.size + 1) = none := I.hok.fresh (Nat.le_succ _)
    obtain ⟨n, hn2⟩ := sortedAll_at s.heap its out.toArray
    refine ⟨.ref (s.heap.objs.size + 1), upd H (s.heap.objs.size + 1) (.lst (((xs.zip ds).mergeSort (dataLe false (·.2))).map (·.1))), I.laid (t' := s.toks) (fun b o e => sortedAll_old e) (Nat.le_succ _) ⟨?_, out, n, rvo, hn2⟩, rfl, q _ hn⟩
    rw [List.length_map, List.length_mergeSort, e1]
    exact hz
end
/-- the sorted list -/
def sortP (xs : List Pv) : List Pv := xs.mergeSort (dataLe false toD)
def sortOk (xs : List Pv) : Prop := isDs xs = true ∧ AllAlike (xs.map toD) ∧ PySem.W.Sortable (xs.map toD) ∧ ∀ x ∈ xs, (toD x).depth ≤ 60
def oSorted : On := fun ps S Q => match ps with
  | [.tup xs] => sortOk xs ∧ Q (.lst (sortP xs)) S
  | [x] => (match rdL S x with | some xs => sortOk xs ∧ Q (.lst (sortP xs)) S | none => False)
  | _ => False
theorem toDs_map : ∀ xs : List Pv, toDs xs = xs.map toD
  | [] => rfl
  | x :: xs => by rw [toDs, toDs_map xs]; rfl
theorem RepVs.mem {K : PySem.W.Frag} {H : Hp} {S : Sto} : ∀ {zs : List (V × Pv)}, (∀ z ∈ zs, RepV K H S z.2 z.1) → RepVs K H S (zs.map (·.2)) (zs.map (·.1))
  | [], _ => rfl
  | z :: zs, h => ⟨z.1, zs.map (·.1), rfl, h z List.mem_cons_self, RepVs.mem fun y hy => h y (List.mem_cons_of_mem _ hy)⟩
theorem RepVs.zip {K : PySem.W.Frag} {H : Hp} {S : Sto} : ∀ {xs : List Pv} {vs : List V}, RepVs K H S xs vs → ∀ z ∈ vs.zip xs, RepV K H S z.2 z.1
  | [], _, h, z, hz => by have e : _ = [] := h; rw [e] at hz; cases hz
  | p :: ps, _, ⟨v, r, e, h1, h2⟩, z, hz => by
    rw [e] at hz
    rcases List.mem_cons.mp hz with rfl | hz
    · exact h1
    · exact RepVs.zip h2 z hz
section
variable {X : Cx} {S0 : Sto} {H0 : Hp} {a : Expr} {fs : PFs} {pos p : Pos}
theorem sort_rep {K : PySem.W.Frag} {H : Hp} {S : Sto} {xs : List Pv} {vs : List V} (r : RepVs K H S xs vs) : RepVs K H S (sortP xs) (((vs.zip (toDs xs)).mergeSort (dataLe false (·.2))).map (·.1)) := by
  have e1 : ((vs.zip xs).mergeSort (dataLe false fun z : V × Pv => toD z.2)).map (·.2) = sortP xs := by
    unfold sortP
    rw [List.map_mergeSort (r := dataLe false fun z : V × Pv => toD z.2) (s := dataLe false toD) (f := fun z : V × Pv => z.2) (fun _ _ _ _ => rfl), List.map_snd_zip (by rw [r.len]; exact Nat.le_refl _)]
  have e2 : ((vs.zip xs).mergeSort (dataLe false fun z : V × Pv => toD z.2)).map (·.1) = ((vs.zip (toDs xs)).mergeSort (dataLe false (·.2))).map (·.1) := by
    have e3 : vs.zip (toDs xs) = (vs.zip xs).map fun z => (z.1, toD z.2) := by
      rw [toDs_map, List.zip_map_right]
      rfl
    rw [e3, ← List.map_mergeSort (r := dataLe false fun z : V × Pv => toD z.2) (f := fun z : V × Pv => (z.1, toD z.2)) (fun _ _ _ _ => rfl), List.map_map]
    rfl
  rw [← e1, ← e2]
  exact RepVs.mem fun z hz => r.zip z ((List.mergeSort_perm _ _).mem_iff.mp hz)
theorem pv_sorted (hu : X.A.units + 64 < cLine) (hm : X.mg "sorted" = none) (ha : PVs X S0 H0 [a] fs) (hg : Gl X "sorted" := by rfl) (he : starEach (a :: []) X.env = (false, eval a X.env) :: starEach [] X.env := by rfl) (hpl : (backTo pos (starEach [] X.env)).any (·.1) = false := by rfl) : PV X S0 H0 (.Call (.Name "sorted" p) [a] [] pos) (fN oSorted fs) := by
  refine pv_callB (CallR.or (cr_sortD hu) (cr_sortT' hu)) ⟨fun x S Q Q' h q => ?_, fun x S Qp v H Q rx rs h k => ?_⟩ hg hm (by decide +kernel) ha (by decide) (by decide) he hpl
  · unfold oSorted at q ⊢
    split at q
    · exact ⟨q.1, h _ _ q.2⟩
    · split at q
      · exact ⟨q.1, h _ _ q.2⟩
      · exact q
    · exact q
  · unfold oSorted at h
    split at h
    · obtain ⟨v1, rfl, r1⟩ := rx.one
      rename_i xs
      obtain ⟨⟨h1, h2, h3, h4⟩, h5⟩ := h
      obtain ⟨t, vs, e1, hq, r⟩ := r1
      refine .inr ⟨t, vs, toDs xs, by rw [e1], hq, dps_of _ _ r h1, by rw [toDs_map]; exact h2, by rw [toDs_map]; exact h3, ?_, fun p np => ?_⟩
      · intro d hd
        rw [toDs_map] at hd
        obtain ⟨x, hx, rfl⟩ := List.mem_map.mp hd
        exact h4 x hx
      · obtain ⟨a1, a2, a3⟩ := newL_k rs np (sort_rep r)
        exact k _ S _ _ h5 a1 a2 a3
    · obtain ⟨v1, rfl, r1⟩ := rx.one
      split at h
      · rename_i xs e0
        obtain ⟨⟨h1, h2, h3, h4⟩, h5⟩ := h
        obtain ⟨t, vs, e1, hq, r⟩ := rdL_rep rs r1 e0
        refine .inl ⟨t, vs, toDs xs, by rw [e1], hq, dps_of _ _ r h1, by rw [toDs_map]; exact h2, by rw [toDs_map]; exact h3, ?_, fun p np => ?_⟩
        · intro d hd
          rw [toDs_map] at hd
          obtain ⟨x, hx, rfl⟩ := List.mem_map.mp hd
          exact h4 x hx
        · obtain ⟨a1, a2, a3⟩ := newL_k rs np (sort_rep r)
          exact k _ S _ _ h5 a1 a2 a3
      · exact h.elim
    · exact h.elim
/-- .. a list that is to be changed -/
def oSortedT : On := fun ps S Q => match ps with
  | [x] => (match rdL S x with | some xs => sortOk xs ∧ ∀ a, S a = none → Q (.ref a) (put S a (.lst (sortP xs))) | none => False)
  | _ => False
theorem pv_sortedT (hu : X.A.units + 64 < cLine) (hm : X.mg "sorted" = none) (ha : PVs X S0 H0 [a] fs) (hg : Gl X "sorted" := by rfl) (he : starEach (a :: []) X.env = (false, eval a X.env) :: starEach [] X.env := by rfl) (hpl : (backTo pos (starEach [] X.env)).any (·.1) = false := by rfl) : PV X S0 H0 (.Call (.Name "sorted" p) [a] [] pos) (fN oSortedT fs) := by
  refine pv_callB (cr_sortD hu) ⟨fun x S Q Q' h q => ?_, fun x S Qp v H Q rx rs h k => ?_⟩ hg hm (by decide +kernel) ha (by decide) (by decide) he hpl
  · unfold oSortedT at q ⊢
    split at q
    · split at q
      · exact ⟨q.1, fun a ha => h _ _ (q.2 a ha)⟩
      · exact q
    · exact q
  · unfold oSortedT at h
    split at h
    · obtain ⟨v1, rfl, r1⟩ := rx.one
      split at h
      · rename_i xs e0
        obtain ⟨⟨h1, h2, h3, h4⟩, h5⟩ := h
        obtain ⟨t, vs, e1, hq, r⟩ := rdL_rep rs r1 e0
        refine ⟨t, vs, toDs xs, by rw [e1], hq, dps_of _ _ r h1, by rw [toDs_map]; exact h2, by rw [toDs_map]; exact h3, ?_, fun p np => ?_⟩
        · intro d hd
          rw [toDs_map] at hd
          obtain ⟨x, hx, rfl⟩ := List.mem_map.mp hd
          exact h4 x hx
        · exact k _ _ _ _ (h5 p (rs.fr np)) rfl (rs.newL np (sort_rep r)) (Ext.newS np)
      · exact h.elim
    · exact h.elim
end
/-! ### what may be sorted -/
theorem isDs_map {α : Type} {f : α → Pv} (h : ∀ x, isD (f x) = true) : ∀ xs : List α, isDs (xs.map f) = true
  | [] => rfl
  | x :: xs => by show (isD (f x) && isDs (xs.map f)) = true; rw [h x, isDs_map h xs]; rfl
theorem sortOk_str (xs : List Str) : sortOk (xs.map Pv.str) := by
  refine ⟨isDs_map (fun _ => rfl) xs, ?_, .inr ?_, ?_⟩
  · intro d hd d' hd'
    simp only [List.map_map, List.mem_map, Function.comp_apply] at hd hd'
    obtain ⟨x, _, rfl⟩ := hd
    obtain ⟨y, _, rfl⟩ := hd'
    rfl
  · intro d hd
    simp only [List.map_map, List.mem_map, Function.comp_apply] at hd
    obtain ⟨x, _, rfl⟩ := hd
    exact ⟨fun e => (by cases e), fun xs e => (by cases e)⟩
  · intro d hd
    obtain ⟨x, _, rfl⟩ := List.mem_map.mp hd
    exact Nat.zero_le _
theorem sortOk_int (xs : List Int) : sortOk (xs.map Pv.int) := by
  refine ⟨isDs_map (fun _ => rfl) xs, ?_, .inr ?_, ?_⟩
  · intro d hd d' hd'
    simp only [List.map_map, List.mem_map, Function.comp_apply] at hd hd'
    obtain ⟨x, _, rfl⟩ := hd
    obtain ⟨y, _, rfl⟩ := hd'
    rfl
  · intro d hd
    simp only [List.map_map, List.mem_map, Function.comp_apply] at hd
    obtain ⟨x, _, rfl⟩ := hd
    exact ⟨fun e => (by cases e), fun xs e => (by cases e)⟩
  · intro d hd
    obtain ⟨x, _, rfl⟩ := List.mem_map.mp hd
    exact Nat.zero_le _
end PL

/-! The pure layer, part 10: more built-ins. -/
namespace PL
open PySem PySem.Spec PyProof.Rows L2
section
variable {X : Cx} {S0 : Sto} {H0 : Hp} {a b : Expr} {fa fb : PF} {fs : PFs} {pos p : Pos}
theorem call_divmodZ : CallR X (.builtin "divmod") (fun xs H Q => ∃ i j, xs = [.int i, .int j] ∧ (j ≠ 0 ∧ j.natAbs.log2 < 9000) ∧ ∀ p, H p = none → Q (.ref p) (upd H p (.tup [.int (i.fdiv j), .int (i.fmod j)]))) := by
  intro pins s σ H xs us Q I r h
  obtain ⟨i, j, rfl, ⟨h1, h2⟩, q⟩ := h
  obtain ⟨u, w', rfl, ⟨t, rfl⟩, ⟨t', rfl⟩⟩ := vals2 r
  refine divmod_int h1 ?_ (.inl (PyProof.noPylong_of_log2 h2))
  have hn : H s.heap.objs.size = none := I.hok.fresh (Nat.le_refl _)
  refine ⟨.ref s.heap.objs.size, _, ?_, rfl, q _ hn⟩
  refine I.laid (fun b o e => Heap.get?_push_of_some _ e) (Nat.le_refl _) ⟨by simp only [List.length_cons, List.length_nil]; rw [sizeLine_eq]; decide, [.int (i.fdiv j) s.toks, .int (i.fmod j) (s.toks + 1)], .cons ⟨_, rfl⟩ (.cons ⟨_, rfl⟩ .nil), ?_⟩
  exact ⟨_, Heap.get?_push_size s.heap rfl, rfl, 0, rfl⟩
def oDivmod : On := fun ps S Q => match ps with
  | [.int i, .int j] => (j ≠ 0 ∧ j.natAbs.log2 < 9000) ∧ Q (.tup [.int (i.fdiv j), .int (i.fmod j)]) S
  | _ => False
theorem pv_divmod (hm : X.mg "divmod" = none) (ha : PVs X S0 H0 [a, b] fs) (hg : Gl X "divmod" := by rfl) (he : starEach (a :: [b]) X.env = (false, eval a X.env) :: starEach [b] X.env := by rfl) (hpl : (backTo pos (starEach [b] X.env)).any (·.1) = false := by rfl) : PV X S0 H0 (.Call (.Name "divmod" p) [a, b] [] pos) (fN oDivmod fs) := by
  refine pv_callB call_divmodZ ⟨fun x S Q Q' h q => ?_, fun x S Qp v H Q rx rs h k => ?_⟩ hg hm (by decide +kernel) ha (by decide) (by decide) he hpl
  · unfold oDivmod at q ⊢
    split at q
    · exact ⟨q.1, h _ _ q.2⟩
    · exact q
  · unfold oDivmod at h
    split at h
    · rename_i i j
      obtain ⟨v1, v2, rfl, r1, r2⟩ := rx.two
      refine ⟨i, j, by rw [show v1 = _ from r1, show v2 = _ from r2], h.1, fun p np => ?_⟩
      obtain ⟨a1, a2, a3⟩ := newT_k rs np (xs := [.int (i.fdiv j), .int (i.fmod j)]) ⟨_, _, rfl, rfl, _, _, rfl, rfl, rfl⟩
      exact k _ S _ _ h.2 a1 a2 a3
    · exact h.elim
end
end PL

/-! The pure layer, part 11: xs[::-1] of a list or a tuple. -/
namespace PL
open PySem PySem.Spec PyProof.Rows L2
open HT (slicePart_)
namespace RevT
section
variable {prog : Program} {w : World} {A : Around} {E : Value → Shared → Prop} {s : Shared}
theorem adjust_rev (n : Nat) : Builtin.Slice.sliceAdjust none none (-1) (n : Int) = ((n : Int) - 1, -1) := by
  unfold Builtin.Slice.sliceAdjust
  simp
theorem places_rev (n : Nat) : Builtin.Slice.slicePlaces ((n : Int) - 1) (-1) (-1) = n := by
  unfold Builtin.Slice.slicePlaces
  have h1 : ¬ ((-1 : Int) > 0) := by decide
  rw [if_neg h1, show (- -1 : Int) = 1 by decide, Int.ediv_one]
  split <;> omega
theorem applied_rev {sl : Addr} {vl vu vk : Value} {n : Nat} {Q : Int × Int × Nat → Shared → Prop} (hs : s.heap.IsSliceOf sl vl vu vk) (pl : IsPart vl none) (pu : IsPart vu none) (pk : IsPart vk (some (-1)))
    (h : Q ((n : Int) - 1, -1, n) s) : wpAny (model prog w) A (Builtin.Slice.sliceApplied (.ref sl) (pure (n : Int))) Q E s := by
  obtain ⟨os, hos, hcs, hds⟩ := id hs
  unfold Builtin.Slice.sliceApplied Builtin.Slice.sliceFields
  refine wpAny_bind (wpAny_bind (wpAny_field hos hds (x := vl) rfl (wpAny_bind (wpAny_field hos hds (x := vu) rfl (wpAny_bind (wpAny_field hos hds (x := vk) rfl (wpAny_pure ?_)))))))
  refine wpAny_bind (slicePart_ pk ?_)
  show wpAny _ _ (if ((-1 : Int) == 0) = true then _ else _) _ _ s
  rw [if_neg (by decide)]
  refine wpAny_bind (slicePart_ pl (wpAny_bind (slicePart_ pu (wpAny_bind (wpAny_pure ?_)))))
  show wpAny _ _ (match Builtin.Slice.sliceAdjust none none (-1) (n : Int) with | (lo, hi) => pure (lo, (-1 : Int), Builtin.Slice.slicePlaces lo hi (-1))) _ _ s
  rw [adjust_rev n]
  show wpAny _ _ (pure ((n : Int) - 1, (-1 : Int), Builtin.Slice.slicePlaces ((n : Int) - 1) (-1) (-1))) _ _ s
  rw [places_rev]
  exact wpAny_pure h
theorem pick_rev (xs : Array Value) : ((List.range xs.size).filterMap fun (m : Nat) => xs[((xs.size : Int) - 1 + (m : Int) * (-1)).toNat]?).toArray = xs.toList.reverse.toArray := by
  have e : ((List.range xs.size).filterMap fun (m : Nat) => xs[((xs.size : Int) - 1 + (m : Int) * (-1)).toNat]?) = ((List.range xs.size).map fun k => xs.size - 1 - k).filterMap (xs[·]?) := by
    rw [List.filterMap_map]
    have key : ∀ l : List Nat, (∀ m ∈ l, m < xs.size) → (l.filterMap fun (m : Nat) => xs[((xs.size : Int) - 1 + (m : Int) * (-1)).toNat]?) = l.filterMap ((xs[·]?) ∘ fun k => xs.size - 1 - k) := by
      intro l
      induction l with
      | nil => intro _; rfl
      | cons m l ih =>
        intro h
        have hm := h m List.mem_cons_self
        have e : ((xs.size : Int) - 1 + (m : Int) * (-1)).toNat = xs.size - 1 - m := by omega
        rw [List.filterMap_cons, List.filterMap_cons, ih fun k hk => h k (List.mem_cons_of_mem _ hk), e]
        rfl
    exact key _ fun m hm => List.mem_range.mp hm
  rw [e, PySem.W.krv_range, List.filterMap_reverse, PySem.W.krv_all]
theorem getItem_rev {t sl : Addr} {items : Array Value} {vl vu vk : Value} {Q : Value → Shared → Prop} (ht : IsTup s.heap t items) (hs : s.heap.IsSliceOf sl vl vu vk) (pl : IsPart vl none) (pu : IsPart vu none) (pk : IsPart vk (some (-1)))
    (h : Q (.ref s.heap.objs.size) { s with heap := s.heap.push { cls := .type "tuple", data := .seq items.toList.reverse.toArray } })
    (hsz : items.size ≤ sizeLine) : wpAny (model prog w) A (getItem (.ref t) (.ref sl)) Q E s := by
  have htake : sizeOk (.seq items.toList.reverse.toArray) := by
    show items.toList.reverse.toArray.size ≤ sizeLine
    rw [List.size_toArray, List.length_reverse, Array.length_toList]
    exact hsz
  obtain ⟨os, hos, hcs, hds⟩ := id hs
  have hTs : s.TypeIs (.ref sl) "slice" := ⟨os, hos, hcs⟩
  unfold getItem
  try with_reducible refine wpAny_holding ?_
  first | refine wpAny_bind (wpAny_pure ?_) | skip
  refine wpAny_bind (wpAny_sequenceKey ht.typeIs (by decide) ?_)
  refine wpAny_bind (wpAny_callSpecial?_slot (name := Str.ofString "__getitem__") ht.typeIs PyProof.Rows.slot_tuple_getitem
    (wpAny_call_entry PyProof.Rows.slot_tuple_getitem ht.typeIs entry_tuple_getitem ?_ (args_tuple_getitem _ _)))
  show wpAny _ _ (Builtin.Tuple.tupleItemsOf (.ref t) >>= _) _ _ s
  refine wpAny_bind (tupleItemsOf_ ht ?_)
  refine wpAny_bind (wpAny_typeOf hTs ?_)
  rw [if_pos (by decide)]
  refine wpAny_bind (applied_rev hs pl pu pk ?_)
  have hno : ¬ (((((items.size : Nat) : Int) - 1) == 0 && (-1 : Int) == 1 && items.size == items.size) = true) := by
    rw [show ((-1 : Int) == 1) = false by decide, Bool.and_false, Bool.false_and]
    exact Bool.false_ne_true
  show wpAny _ _ (if ((((items.size : Nat) : Int) - 1) == 0 && (-1 : Int) == 1 && items.size == items.size) = true then _ else _) _ _ s
  rw [if_neg hno, pick_rev]
  first
    | exact wpAny_bind (m := Builtin.Tuple.tupleExact _) (wpAny_newObj_type (wpAny_pure ⟨_, rfl, wpAny_pure h⟩) htake)
    | exact wpAny_bind (m := Builtin.Tuple.tupleExact _) (wpAny_newObj_type (wpAny_bind (wpAny_pure (wpAny_pure ⟨_, rfl, wpAny_pure h⟩))) htake)
    | exact wpAny_bind (wpAny_bind (m := Builtin.Tuple.tupleExact _) (wpAny_newObj_type (wpAny_pure (wpAny_pure ⟨_, rfl, wpAny_pure h⟩)) htake))
    | exact wpAny_bind (wpAny_bind (m := Builtin.Tuple.tupleExact _) (wpAny_newObj_type (wpAny_pure ⟨_, rfl, wpAny_pure h⟩) htake))
end
section
variable {X : Cx}
def tRevA (K : PySem.W.Frag) (te : TE) : TE := fun σ H Q => te σ H fun x H1 => (∃ a xs, x = .ref a ∧ SqL K H1 a xs ∧ ∀ p, H1 p = none → Q (.ref p) (upd H1 p (.lst xs.reverse))) ∨ ∃ a xs, x = .ref a ∧ SqT K H1 a xs ∧ ∀ p, H1 p = none → Q (.ref p) (upd H1 p (.tup xs.reverse))
theorem pe_revA {e : Expr} {te : TE} {k : Nat} {p1 p2 p3 pos : Pos} (he : PE X e te) : PE X (.Subscript e (.Slice none none (some (.UnaryOp .USub (.Constant (.int 1) k p1) p2)) p3) pos) (tRevA X.K te) := by
  refine ⟨fun pins s σ H Q I h => ?_⟩
  refine Subscript_ (thn (he.run pins s σ H _ I h) fun v s1 ⟨x, H1, I1, r1, q1⟩ => ?_)
  have hst : PO X (some (.UnaryOp .USub (.Constant (.int 1) k p1) p2)) (tPart (tUn (rU fun i => .int (-i)) (tC (.int 1)))) := po_some (pe_un un_neg pe_int)
  refine wpAny_Slice (thn (po_none.run pins s1 σ H1 (fun o H2 => o = none ∧ H2 = H1) I1 ⟨rfl, rfl⟩) fun vl s2 ⟨l, H2, I2, pl, el, e2⟩ => ?_)
  subst el e2
  refine thn (po_none.run pins s2 σ H2 (fun o H3 => o = none ∧ H3 = H2) I2 ⟨rfl, rfl⟩) fun vu s3 ⟨u, H3, I3, pu, eu, e3⟩ => ?_
  subst eu e3
  refine thn (hst.run pins s3 σ H3 (fun o H4 => o = some (-1) ∧ H4 = H3) I3 ⟨1, rfl, -1, rfl, rfl, rfl⟩) fun vs s4 ⟨o, H4, I4, ps, eo, e4⟩ => ?_
  subst eo e4
  have I5 : Inv X pins σ H4 { s4 with heap := s4.heap.push { cls := .type "slice", data := .fields #[vl, vu, vs] } } := I4.kept (t' := s4.toks) fun b ob q => Heap.get?_push_of_some _ q
  rcases q1 with ⟨a, xs, ex, hx, q⟩ | ⟨a, xs, ex, hx, q⟩
  · subst ex
    cases r1
    obtain ⟨its, r, ht, hz⟩ := I5.list hx
    have hlen := r.length
    show wpAny (model X.prog X.w) X.A (subscriptTail e (.Slice none none (some (.UnaryOp .USub (.Constant (.int 1) k p1) p2)) p3) (.ref a) (.ref s4.heap.objs.size)) (EP X pins σ Q) X.xe { s4 with heap := s4.heap.push { cls := .type "slice", data := .fields #[vl, vu, vs] } }
    refine tail_any (ops := [.ref a, .ref s4.heap.objs.size]) ht.isList.typeIs (PySem.slot_list_getitem.lookup) ?_ (by with_unfolding_all rfl)
    refine wpAny_getItem_list_slice ht.isList (Heap.IsSliceOf.new _ vl vu vs) pl pu ps (by decide) ?_ (by rw [List.size_toArray]; omega)
    rw [PySem.W.krv_pick]
    refine ⟨.ref _, _, I5.laid (t' := s4.toks) (o := .lst xs.reverse) (fun b ob q => Heap.get?_push_of_some _ q) (Nat.le_refl _) ?_, rfl, q _ (I5.hok.fresh (Nat.le_refl _))⟩
    exact ⟨by rw [List.length_reverse]; exact hz, _, 0, r.reverse, Heap.get?_push_size _ rfl⟩
  · subst ex
    cases r1
    obtain ⟨its, r, ht, hz⟩ := I5.tuple hx
    have hlen := r.length
    show wpAny (model X.prog X.w) X.A (subscriptTail e (.Slice none none (some (.UnaryOp .USub (.Constant (.int 1) k p1) p2)) p3) (.ref a) (.ref s4.heap.objs.size)) (EP X pins σ Q) X.xe { s4 with heap := s4.heap.push { cls := .type "slice", data := .fields #[vl, vu, vs] } }
    refine tail_any (ops := [.ref a, .ref s4.heap.objs.size]) ht.typeIs (PyProof.Rows.slot_tuple_getitem.lookup) ?_ (by with_unfolding_all rfl)
    refine getItem_rev ht (Heap.IsSliceOf.new _ vl vu vs) pl pu ps ?_ (by rw [List.size_toArray]; omega)
    refine ⟨.ref _, _, I5.laid (t' := s4.toks) (o := .tup xs.reverse) (fun b ob q => Heap.get?_push_of_some _ q) (Nat.le_refl _) ?_, rfl, q _ (I5.hok.fresh (Nat.le_refl _))⟩
    exact ⟨by rw [List.length_reverse]; exact hz, _, r.reverse, _, Heap.get?_push_size _ rfl, rfl, _, rfl⟩
end
end RevT
def oRev (x : Pv) (S : Sto) (Q : QV) : Prop := match x with
  | .tup xs => Q (.tup xs.reverse) S
  | x => match rdL S x with
    | some xs => Q (.lst xs.reverse) S
    | none => False
section
variable {X : Cx} {S0 : Sto} {H0 : Hp} {a : Expr} {fa : PF} {pos : Pos}
theorem pv_rev {k : Nat} {p1 p2 p3 : Pos} (ha : PV X S0 H0 a fa) : PV X S0 H0 (.Subscript a (.Slice none none (some (.UnaryOp .USub (.Constant (.int 1) k p1) p2)) p3) pos) (f1 oRev fa) := by
  have m : ∀ x S Q Q', (∀ p S', Q p S' → Q' p S') → oRev x S Q → oRev x S Q' := fun x S Q Q' h q => by
    unfold oRev at q ⊢
    split at q
    · exact h _ _ q
    · split at q
      · exact h _ _ q
      · exact q
  refine ⟨f1_mono m ha, PE.imp (RevT.pe_revA ha.pe) fun σ H Q ⟨ρ, S, re, rs, ex, q⟩ => ?_⟩
  refine ⟨ρ, S, re, rs, ex, ha.mono _ _ _ _ (fun x S1 q v H1 rv rs1 ex1 => ?_) q⟩
  unfold oRev at q
  split at q
  · obtain ⟨t, vs, e, hq, r⟩ := rv
    refine .inr ⟨t, vs, e, hq, fun p np => ?_⟩
    obtain ⟨a1, a2, a3⟩ := newT_k rs1 np r.rev
    exact q _ _ a1 a2 (ex1.trans a3)
  · split at q
    · rename_i xs e0
      obtain ⟨t, vs, e, hq, r⟩ := rdL_rep rs1 rv e0
      refine .inl ⟨t, vs, e, hq, fun p np => ?_⟩
      obtain ⟨a1, a2, a3⟩ := newL_k rs1 np r.rev
      exact q _ _ a1 a2 (ex1.trans a3)
    · exact q.elim
end
end PL

/-! Fractions: the pure values of the program's fractions are Lean's own rationals. -/
namespace PL
open PySem PySem.Spec PyProof.Rows L2

/-! ### promises -/
def SpF {α : Type} (args : α → List Pv) (pre : α → Prop) (res : α → Pv) : PSp := fun xs S Q _ => ∃ a, xs = args a ∧ pre a ∧ Q (res a) S
theorem SpF.len {α : Type} {args : α → List Pv} {pre : α → Prop} {res : α → Pv} {n : Nat} (h : ∀ a, (args a).length = n) : ∀ (xs : List Pv) (S : Sto) (Q : QV) (E : QE), SpF args pre res xs S Q E → xs.length = n := fun xs S Q E ⟨a, e, _⟩ => by rw [e]; exact h a
theorem SpF.mono {α : Type} {args : α → List Pv} {pre : α → Prop} {res : α → Pv} : ∀ (xs : List Pv) S (Q Q' : QV) (E E' : QE), (∀ p S', Q p S' → Q' p S') → (∀ C S', E C S' → E' C S') → SpF args pre res xs S Q E → SpF args pre res xs S Q' E' := fun xs S Q Q' E E' h _ ⟨a, e, p, q⟩ => ⟨a, e, p, h _ _ q⟩
def SpS {α : Type} (args : α → List Pv) (pre : α → Sto → Prop) (post : α → Sto → Pv → Sto → Prop) : PSp := fun xs S Q _ => ∃ a, xs = args a ∧ pre a S ∧ ∀ p S', post a S p S' → Q p S'
theorem SpS.len {α : Type} {args : α → List Pv} {pre : α → Sto → Prop} {post : α → Sto → Pv → Sto → Prop} {n : Nat} (h : ∀ a, (args a).length = n) : ∀ (xs : List Pv) (S : Sto) (Q : QV) (E : QE), SpS args pre post xs S Q E → xs.length = n := fun xs S Q E ⟨a, e, _⟩ => by rw [e]; exact h a
theorem SpS.mono {α : Type} {args : α → List Pv} {pre : α → Sto → Prop} {post : α → Sto → Pv → Sto → Prop} : ∀ (xs : List Pv) S (Q Q' : QV) (E E' : QE), (∀ p S', Q p S' → Q' p S') → (∀ C S', E C S' → E' C S') → SpS args pre post xs S Q E → SpS args pre post xs S Q' E' := fun xs S Q Q' E E' h _ ⟨a, e, p, q⟩ => ⟨a, e, p, fun p S' z => h _ _ (q p S' z)⟩
abbrev endD (Q : QV) : Ends' := { nx := fun _ S => Out Q .non S, rt := Out Q }
theorem SpF.ex {α : Type} {args : α → List Pv} {pre : α → Prop} {res : α → Pv} {b : PFS} {n : Nat} (h : ∀ a S (Q : QV), pre a → Q (res a) S → b (endD Q) (st0 n (args a)) S) {xs : List Pv} {S0 : Sto} {Q : QV} {Ep : QE} (q : SpF args pre res xs S0 Q Ep) : b (endD Q) (st0 n xs) S0 := by
  obtain ⟨a, e, p, q⟩ := q
  rw [e]
  exact h a S0 Q p q
theorem SpS.ex {α : Type} {args : α → List Pv} {pre : α → Sto → Prop} {post : α → Sto → Pv → Sto → Prop} {b : PFS} {n : Nat} (h : ∀ a S (Q : QV), pre a S → (∀ p S', post a S p S' → Q p S') → b (endD Q) (st0 n (args a)) S) {xs : List Pv} {S0 : Sto} {Q : QV} {Ep : QE} (q : SpS args pre post xs S0 Q Ep) : b (endD Q) (st0 n xs) S0 := by
  obtain ⟨a, e, p, q⟩ := q
  rw [e]
  exact h a S0 Q p q
/-- reads the store, does not change it -/
def SpG {α : Type} (args : α → List Pv) (pre : α → Sto → Prop) (res : α → Sto → Pv) : PSp := fun xs S Q _ => ∃ a, xs = args a ∧ pre a S ∧ Q (res a S) S
theorem SpG.len {α : Type} {args : α → List Pv} {pre : α → Sto → Prop} {res : α → Sto → Pv} {n : Nat} (h : ∀ a, (args a).length = n) : ∀ (xs : List Pv) (S : Sto) (Q : QV) (E : QE), SpG args pre res xs S Q E → xs.length = n := fun xs S Q E ⟨a, e, _⟩ => by rw [e]; exact h a
theorem SpG.mono {α : Type} {args : α → List Pv} {pre : α → Sto → Prop} {res : α → Sto → Pv} : ∀ (xs : List Pv) S (Q Q' : QV) (E E' : QE), (∀ p S', Q p S' → Q' p S') → (∀ C S', E C S' → E' C S') → SpG args pre res xs S Q E → SpG args pre res xs S Q' E' := fun xs S Q Q' E E' h _ ⟨a, e, p, q⟩ => ⟨a, e, p, h _ _ q⟩
theorem SpG.ex {α : Type} {args : α → List Pv} {pre : α → Sto → Prop} {res : α → Sto → Pv} {b : PFS} {n : Nat} (h : ∀ a S (Q : QV), pre a S → Q (res a S) S → b (endD Q) (st0 n (args a)) S) {xs : List Pv} {S0 : Sto} {Q : QV} {Ep : QE} (q : SpG args pre res xs S0 Q Ep) : b (endD Q) (st0 n xs) S0 := by
  obtain ⟨a, e, p, q⟩ := q
  rw [e]
  exact h a S0 Q p q
/-- a test: its answer is given by name, that no one computes it -/
def SpB {α : Type} (args : α → List Pv) (pre : α → Sto → Prop) (res : α → Sto → Bool) : PSp := fun xs S Q _ => ∃ a, xs = args a ∧ pre a S ∧ ∀ b, b = res a S → Q (.bl b) S
theorem SpB.len {α : Type} {args : α → List Pv} {pre : α → Sto → Prop} {res : α → Sto → Bool} {n : Nat} (h : ∀ a, (args a).length = n) : ∀ (xs : List Pv) (S : Sto) (Q : QV) (E : QE), SpB args pre res xs S Q E → xs.length = n := fun xs S Q E ⟨a, e, _⟩ => by rw [e]; exact h a
theorem SpB.mono {α : Type} {args : α → List Pv} {pre : α → Sto → Prop} {res : α → Sto → Bool} : ∀ (xs : List Pv) S (Q Q' : QV) (E E' : QE), (∀ p S', Q p S' → Q' p S') → (∀ C S', E C S' → E' C S') → SpB args pre res xs S Q E → SpB args pre res xs S Q' E' := fun xs S Q Q' E E' h _ ⟨a, e, p, q⟩ => ⟨a, e, p, fun b z => h _ _ (q b z)⟩
theorem SpB.ex {α : Type} {args : α → List Pv} {pre : α → Sto → Prop} {res : α → Sto → Bool} {b : PFS} {n : Nat} (h : ∀ a S (Q : QV), pre a S → Q (.bl (res a S)) S → b (endD Q) (st0 n (args a)) S) {xs : List Pv} {S0 : Sto} {Q : QV} {Ep : QE} (q : SpB args pre res xs S0 Q Ep) : b (endD Q) (st0 n xs) S0 := by
  obtain ⟨a, e, p, q⟩ := q
  rw [e]
  exact h a S0 Q p (q _ rfl)

theorem lz {n : Nat} (h : Nat.ble n 1000 = true) : n ≤ sizeLine := Nat.le_trans (Nat.le_of_ble_eq_true h) (by decide)
theorem lz' {n : Nat} (h : Nat.ble n 1000 = true) : n < sizeLine := Nat.lt_of_le_of_lt (Nat.le_of_ble_eq_true h) (by decide)
/-! ### sizes -/
def szI (n : Nat) (i : Int) : Prop := i.natAbs < 2 ^ n
theorem szI.up {n m : Nat} {i : Int} (h : szI n i) (l : n ≤ m) : szI m i := Nat.lt_of_lt_of_le h (Nat.pow_le_pow_right (by decide) l)
theorem szI.mul {n m : Nat} {i j : Int} (h : szI n i) (h' : szI m j) : szI (n + m) (i * j) := by
  unfold szI at *
  rw [Int.natAbs_mul, Nat.pow_add]
  exact Nat.mul_lt_mul'' h h'
theorem szI.add {n m : Nat} {i j : Int} (h : szI n i) (h' : szI m j) : szI (max n m + 1) (i + j) := by
  have a := h.up (Nat.le_max_left n m)
  have b := h'.up (Nat.le_max_right n m)
  unfold szI at *
  rw [Nat.pow_succ]
  omega
theorem szI.sub {n m : Nat} {i j : Int} (h : szI n i) (h' : szI m j) : szI (max n m + 1) (i - j) := by
  have a := h.up (Nat.le_max_left n m)
  have b := h'.up (Nat.le_max_right n m)
  unfold szI at *
  rw [Nat.pow_succ]
  omega
theorem mulOk {n m : Nat} {i j : Int} (h : szI n i) (h' : szI m j) (l : n + m ≤ 900000) : IntMulOk i j :=
  (wide_mul (h.up (Nat.le_succ n)) (h'.up (Nat.le_succ m)) (Nat.succ_pos n) (Nat.succ_pos m) (by omega)).ok
theorem log_lt {n : Nat} {i : Int} (h : szI n i) (l : n < 9000) : i.natAbs.log2 < 9000 := by
  have h' := h.up (Nat.le_succ n)
  exact Nat.lt_of_lt_of_le (PySem.Flt.log2_lt_of (Nat.succ_pos n) h') (by omega)
/-- a fraction as a value -/
def fr (q : Rat) : Pv := .tup [.int q.num, .int (q.den : Int)]
/-- at most n bits above and below -/
def Sz (n : Nat) (q : Rat) : Prop := szI n q.num ∧ szI n (q.den : Int)
theorem Sz.up {n m : Nat} {q : Rat} (h : Sz n q) (l : n ≤ m) : Sz m q := ⟨h.1.up l, h.2.up l⟩
theorem divInt_sz {n : Nat} {t b : Int} (hb : b ≠ 0) (ht : szI n t) (h : szI n b) : Sz n (Rat.divInt t b) := by
  have hg : 0 < b.gcd t := Int.gcd_pos_of_ne_zero_left _ hb
  refine ⟨?_, ?_⟩
  · unfold szI at *
    rw [Rat.num_divInt]
    have e : (b.sign * t / ↑(b.gcd t)).natAbs ≤ (b.sign * t).natAbs := Int.natAbs_ediv_le_natAbs _ _
    have e2 : (b.sign * t).natAbs = t.natAbs := by
      rw [Int.natAbs_mul, Int.natAbs_sign_of_ne_zero hb, Nat.one_mul]
    omega
  · unfold szI at *
    rw [Rat.den_divInt, if_neg hb]
    have e : b.natAbs / b.gcd t ≤ b.natAbs := Nat.div_le_self _ _
    simp only [Int.natAbs_natCast]
    omega
theorem add_eq (p q : Rat) : p + q = Rat.divInt (p.num * q.den + q.num * p.den) (p.den * q.den) := by
  have h1 : (p.den : Int) ≠ 0 := by have := p.den_nz; omega
  have h2 : (q.den : Int) ≠ 0 := by have := q.den_nz; omega
  have e := Rat.divInt_add_divInt p.num q.num h1 h2
  rw [Rat.num_divInt_den, Rat.num_divInt_den] at e
  exact e
theorem sub_eq (p q : Rat) : p - q = Rat.divInt (p.num * q.den - q.num * p.den) (p.den * q.den) := by
  have h1 : (p.den : Int) ≠ 0 := by have := p.den_nz; omega
  have h2 : (q.den : Int) ≠ 0 := by have := q.den_nz; omega
  have e := Rat.divInt_sub_divInt p.num q.num h1 h2
  rw [Rat.num_divInt_den, Rat.num_divInt_den] at e
  exact e
theorem mul_eq (p q : Rat) : p * q = Rat.divInt (p.num * q.num) (p.den * q.den) := by
  have e := Rat.divInt_mul_divInt p.num q.num (d₁ := p.den) (d₂ := q.den)
  rw [Rat.num_divInt_den, Rat.num_divInt_den] at e
  exact e
theorem den_ne (q : Rat) : (q.den : Int) ≠ 0 := by have := q.den_nz; omega
theorem den_pos (q : Rat) : (0 : Int) < q.den := by have := q.den_nz; omega
theorem den2_ne (p q : Rat) : (p.den : Int) * q.den ≠ 0 := Int.mul_ne_zero (den_ne p) (den_ne q)
theorem Sz.add {n m : Nat} {p q : Rat} (h : Sz n p) (h' : Sz m q) : Sz (n + m + 1) (p + q) := by
  rw [add_eq]
  refine divInt_sz (den2_ne p q) ?_ ((h.2.mul h'.2).up (by omega))
  exact ((h.1.mul h'.2).add (h'.1.mul h.2)).up (by omega)
theorem Sz.sub {n m : Nat} {p q : Rat} (h : Sz n p) (h' : Sz m q) : Sz (n + m + 1) (p - q) := by
  rw [sub_eq]
  refine divInt_sz (den2_ne p q) ?_ ((h.2.mul h'.2).up (by omega))
  exact ((h.1.mul h'.2).sub (h'.1.mul h.2)).up (by omega)
theorem Sz.mul {n m : Nat} {p q : Rat} (h : Sz n p) (h' : Sz m q) : Sz (n + m) (p * q) := by
  rw [mul_eq]
  exact divInt_sz (den2_ne p q) (h.1.mul h'.1) (h.2.mul h'.2)

/-! ### whole numbers -/
theorem absP (i : Int) : (if i < 0 then -i else i) = (i.natAbs : Int) := by split <;> omega
theorem fmod_nat (x y : Nat) : Int.fmod (x : Int) (y : Int) = ((x % y : Nat) : Int) := by
  rw [Int.fmod_eq_emod_of_nonneg _ (by omega)]; rfl
theorem low_num {t b : Int} (hb : b ≠ 0) : t.fdiv (if b < 0 then 0 - (Int.gcd t b : Int) else (Int.gcd t b : Int)) = (Rat.divInt t b).num ∧ b.fdiv (if b < 0 then 0 - (Int.gcd t b : Int) else (Int.gcd t b : Int)) = ((Rat.divInt t b).den : Int) := by
  have hg : (0 : Int) < (Int.gcd t b : Int) := by
    have : 0 < Int.gcd t b := Int.gcd_pos_of_ne_zero_right _ hb
    omega
  have d1 : (Int.gcd t b : Int) ∣ t := Int.gcd_dvd_left t b
  have d2 : (Int.gcd t b : Int) ∣ b := Int.gcd_dvd_right t b
  rw [Rat.num_divInt, Rat.den_divInt, if_neg hb, Int.gcd_comm b t]
  generalize hgg : (Int.gcd t b) = g at *
  obtain ⟨t', rfl⟩ := d1
  obtain ⟨b', rfl⟩ := d2
  have hg0 : (g : Int) ≠ 0 := by omega
  have hb' : b' ≠ 0 := by rintro rfl; simp at hb
  have e1 : ((g : Int) * b').natAbs / g = b'.natAbs := by
    rw [Int.natAbs_mul, Int.natAbs_natCast, Nat.mul_div_cancel_left _ (by omega)]
  rw [e1]
  by_cases hn : (g : Int) * b' < 0
  · have hb1 : b' < 0 := by
      apply Decidable.byContradiction
      intro h
      have : 0 ≤ (g : Int) * b' := Int.mul_nonneg (by omega) (by omega)
      omega
    rw [if_pos hn, Int.sign_eq_neg_one_of_neg hn]
    have f1 : Int.fdiv ((g : Int) * t') (0 - g) = - t' := by
      rw [show ((g : Int) * t') = (-t') * (0 - g) by rw [Int.zero_sub, Int.neg_mul_neg, Int.mul_comm]]
      exact Int.mul_fdiv_cancel _ (by omega)
    have f2 : Int.fdiv ((g : Int) * b') (0 - g) = - b' := by
      rw [show ((g : Int) * b') = (-b') * (0 - g) by rw [Int.zero_sub, Int.neg_mul_neg, Int.mul_comm]]
      exact Int.mul_fdiv_cancel _ (by omega)
    rw [f1, f2]
    refine ⟨?_, by omega⟩
    rw [show (-1 : Int) * (g * t') = g * (-t') by rw [Int.neg_one_mul, Int.mul_neg], Int.mul_ediv_cancel_left _ hg0]
  · have hb1 : 0 < b' := by
      apply Decidable.byContradiction
      intro h
      have h3 : b' < 0 := by omega
      exact hn (Int.mul_neg_of_pos_of_neg hg h3)
    have hp : 0 < (g : Int) * b' := Int.mul_pos hg hb1
    rw [if_neg hn, Int.sign_eq_one_of_pos hp]
    have f1 : Int.fdiv ((g : Int) * t') g = t' := by rw [Int.mul_comm]; exact Int.mul_fdiv_cancel _ hg0
    have f2 : Int.fdiv ((g : Int) * b') g = b' := by rw [Int.mul_comm]; exact Int.mul_fdiv_cancel _ hg0
    rw [f1, f2]
    refine ⟨?_, by omega⟩
    rw [Int.one_mul, Int.mul_ediv_cancel_left _ hg0]
end PL
namespace PL
open PySem PySem.Spec PyProof.Rows L2
def absR (q : Rat) : Rat := if q < 0 then -q else q
theorem num_neg_iff (q : Rat) : q < 0 ↔ q.num < 0 := by
  rw [Rat.lt_iff]; simp
theorem fr_abs (q : Rat) : fr (absR q) = .tup [.int (q.num.natAbs : Int), .int (q.den : Int)] := by
  unfold absR fr
  split
  · rename_i h
    have h' : q.num < 0 := (num_neg_iff q).mp h
    show Pv.tup [.int (-q.num), .int (q.den : Int)] = _
    rw [show -q.num = (q.num.natAbs : Int) by omega]
  · rename_i h
    have h' : ¬ q.num < 0 := fun e => h ((num_neg_iff q).mpr e)
    rw [show q.num = (q.num.natAbs : Int) by omega]
    simp
theorem Sz.abs {n : Nat} {q : Rat} (h : Sz n q) : Sz n (absR q) := by
  unfold absR
  split
  · refine ⟨?_, h.2⟩
    have h1 := h.1
    unfold szI at *
    show (-q.num).natAbs < _
    rw [Int.natAbs_neg]; exact h1
  · exact h
end PL
namespace PL
open PySem PySem.Spec PyProof.Rows L2
/-! ### things of any kind -/
mutual
/-- nothing of the store in it, as far as tuples go -/
def tyD : Pv → Bool
  | .tup xs => tyDs xs
  | .ref _ => false
  | .ty _ => false
  | .non => true | .bl _ => true | .int _ => true | .str _ => true | .lst _ => true | .dct _ _ => true | .scr _ => true
def tyDs : List Pv → Bool
  | [] => true
  | x :: xs => tyD x && tyDs xs
end
def isIntP : Pv → Bool
  | .int _ => true
  | _ => false
def frac2 : Pv → Pv → Bool
  | .int t, .int b => decide (0 < b) && decide (Int.gcd t b = 1)
  | _, _ => false
def fracP : Pv → Bool
  | .tup xs => match xs with
    | [a, b] => frac2 a b
    | _ => false
  | _ => false
def pointP : Pv → Bool
  | .tup xs => match xs with
    | [a, b] => fracP a && fracP b
    | _ => false
  | _ => false
theorem fracP_fr (q : Rat) : fracP (fr q) = true := by
  show (decide (0 < (q.den : Int)) && decide (Int.gcd q.num q.den = 1)) = true
  rw [Bool.and_eq_true]
  exact ⟨decide_eq_true (den_pos q), decide_eq_true q.reduced⟩
theorem tyD_fr (q : Rat) : tyD (fr q) = true := rfl
/-- a point -/
def pt (p : Rat × Rat) : Pv := .tup [fr p.1, fr p.2]
theorem pointP_pt (p : Rat × Rat) : pointP (pt p) = true := by
  show (fracP (fr p.1) && fracP (fr p.2)) = true
  rw [fracP_fr, fracP_fr]; rfl
theorem tyD_pt (p : Rat × Rat) : tyD (pt p) = true := rfl
theorem frac_is {x : Pv} (h : fracP x = true) : ∃ q : Rat, x = fr q := by
  unfold fracP at h
  split at h
  · split at h
    · rename_i a b
      unfold frac2 at h
      split at h
      · rename_i t b
        rw [Bool.and_eq_true, decide_eq_true_eq, decide_eq_true_eq] at h
        obtain ⟨n, rfl⟩ : ∃ n : Nat, b = (n : Int) := ⟨b.toNat, by omega⟩
        exact ⟨⟨t, n, by omega, h.2⟩, rfl⟩
      · cases h
    · cases h
  · cases h
theorem point_is {x : Pv} (h : pointP x = true) : ∃ p : Rat × Rat, x = pt p := by
  unfold pointP at h
  split at h
  · split at h
    · rw [Bool.and_eq_true] at h
      obtain ⟨p, rfl⟩ := frac_is h.1
      obtain ⟨q, rfl⟩ := frac_is h.2
      exact ⟨(p, q), rfl⟩
    · cases h
  · cases h
end PL
namespace PL
open PySem PySem.Spec PyProof.Rows L2
/-! ### the law's own drawing: a list of three numbers that is changed -/
theorem at0 (x : Pv) (l : List Pv) : atI (x :: l) 0 = some x := by
  unfold atI ixN
  simp only [List.length_cons]
  rw [if_pos (by decide), if_pos (by omega)]
  rfl
theorem at1 (x y : Pv) (l : List Pv) : atI (x :: y :: l) 1 = some y := by
  unfold atI ixN
  simp only [List.length_cons]
  rw [if_pos (by decide), if_pos (by omega)]
  rfl
theorem at2 (x y z : Pv) (l : List Pv) : atI (x :: y :: z :: l) 2 = some z := by
  unfold atI ixN
  simp only [List.length_cons]
  rw [if_pos (by decide), if_pos (by omega)]
  rfl
theorem ix3_0 : ixN 3 0 = some 0 := rfl
theorem ix3_1 : ixN 3 1 = some 1 := rfl
theorem ix3_2 : ixN 3 2 = some 2 := rfl
def St3 (m : Mo) : Prop := ∃ d u c : Int, m = .lst [.int d, .int u, .int c] ∧ 0 ≤ d ∧ 0 ≤ u ∧ u < 2 ^ 40
theorem fmod_bd {i j : Int} (h : 0 < j) : 0 ≤ i.fmod j ∧ i.fmod j < j := by
  rw [Int.fmod_eq_emod_of_nonneg _ (by omega)]
  exact ⟨Int.emod_nonneg _ (by omega), Int.emod_lt_of_pos _ h⟩
theorem fdiv_nn {i j : Int} (hi : 0 ≤ i) (h : 0 < j) : 0 ≤ i.fdiv j := Int.fdiv_nonneg hi (by omega)
theorem mulOk40 {i j : Int} (hi : 0 ≤ i) (h : i < 2 ^ 40) (hj : 0 ≤ j) (h' : j < 2 ^ 40) : IntMulOk i j := mulOk (n := 40) (m := 40) (by unfold szI; omega) (by unfold szI; omega) (by decide)
end PL
namespace PL
open PySem PySem.Spec PyProof.Rows L2
theorem at_of {xs : List Pv} {r : Int} (h0 : 0 ≤ r) (h : r < xs.length) : ∃ p, atI xs r = some p ∧ p ∈ xs := by
  obtain ⟨n, rfl⟩ : ∃ n : Nat, r = (n : Int) := ⟨r.toNat, by omega⟩
  have hn : n < xs.length := by omega
  exact ⟨xs[n], atI_nat (List.getElem?_eq_getElem hn), List.getElem_mem hn⟩
/-- an item of a written list of numbers -/
theorem at_ints {ns : List Int} {r : Int} {P : Int → Prop} (h0 : 0 ≤ r) (h : r < ns.length) (hP : ∀ n ∈ ns, P n) : ∃ n, atI (ns.map Pv.int) r = some (.int n) ∧ P n := by
  obtain ⟨p, e, hp⟩ := at_of (xs := ns.map Pv.int) h0 (by simpa using h)
  obtain ⟨n, hn, rfl⟩ := List.mem_map.mp hp
  exact ⟨n, e, hP n hn⟩
end PL

/-! Texts of data, and how long they are; == of data. -/
namespace PL
open PySem PySem.Spec PyProof.Rows L2
/-- data whose text has at most n signs, at most d deep -/
def Sh (n d : Nat) (p : Pv) : Prop := isD p = true ∧ (toD p).showable = true ∧ (toD p).shown.length ≤ n ∧ (toD p).depth ≤ d
def Shs (n d : Nat) (ps : List Pv) : Prop := isDs ps = true ∧ PyData.showableAll (toDs ps) = true ∧ piled (PyData.shownAll (toDs ps)) ≤ n ∧ PyData.depthAll (toDs ps) ≤ d
theorem Sh.up {n m d e : Nat} {p : Pv} (h : Sh n d p) (l : n ≤ m) (l' : d ≤ e) : Sh m e p := ⟨h.1, h.2.1, Nat.le_trans h.2.2.1 l, Nat.le_trans h.2.2.2 l'⟩
theorem Shs.nil {d : Nat} : Shs 0 d [] := ⟨rfl, rfl, Nat.le_refl 0, Nat.zero_le _⟩
theorem Shs.cons {n m d : Nat} {p : Pv} {ps : List Pv} (h : Sh n d p) (h' : Shs m d ps) : Shs (n + 2 + m) d (p :: ps) := by
  obtain ⟨a1, a2, a3, a4⟩ := h
  obtain ⟨b1, b2, b3, b4⟩ := h'
  refine ⟨?_, ?_, ?_, ?_⟩
  · show (isD p && isDs ps) = true
    rw [a1, b1]; rfl
  · show (PyData.showable (toD p) && PyData.showableAll (toDs ps)) = true
    rw [a2, b2]; rfl
  · show piled (PyData.shown (toD p) :: PyData.shownAll (toDs ps)) ≤ _
    rw [piled_cons]; omega
  · show max (PyData.depth (toD p)) (PyData.depthAll (toDs ps)) ≤ d
    omega
theorem Shs.map {α : Type} {f : α → Pv} {n d : Nat} : ∀ {xs : List α}, (∀ x ∈ xs, Sh n d (f x)) → Shs ((n + 2) * xs.length) d (xs.map f)
  | [], _ => Shs.nil
  | x :: xs, h => by
    have a := Shs.cons (h x List.mem_cons_self) (Shs.map fun y hy => h y (List.mem_cons_of_mem _ hy))
    rw [List.length_cons, Nat.mul_succ, Nat.add_comm]
    exact a
theorem tupText_le (ts : List Str) : (tupleText ts).length ≤ piled ts + 3 := by
  unfold tupleText
  rw [Str.length_append, Str.length_append]
  have h1 : (("(" : Str)).length = 1 := rfl
  have h2 : ((if (ts.length == 1) = true then ",)" else ")" : String) : Str).length ≤ 2 := by split <;> decide
  rw [h1]
  cases ts with
  | nil => 
    have h3 : (Str.join ", " []).length = 0 := rfl
    rw [h3, piled_nil]; omega
  | cons t ts =>
    have h3 := join_length_add (t :: ts) (by simp)
    omega
theorem textFrom_le : ∀ (ts : List Str) (k : Nat) (acc : Str), (textFrom k acc ts).length ≤ acc.length + piled ts
  | [], k, acc => by show acc.length ≤ _; omega
  | t :: ts, k, acc => by
    show (textFrom (k + 1) (acc ++ (if k > 0 then ", " else "" : String) ++ t) ts).length ≤ _
    have h := textFrom_le ts (k + 1) (acc ++ (if k > 0 then ", " else "" : String) ++ t)
    have h2 : ((if k > 0 then ", " else "" : String) : Str).length ≤ 2 := by split <;> decide
    rw [Str.length_append, Str.length_append] at h
    rw [piled_cons]
    omega
theorem listText_le (ts : List Str) : (listText ts).length ≤ piled ts + 2 := by
  unfold listText
  rw [Str.length_append]
  have h := textFrom_le ts 0 "["
  have h1 : (("[" : Str)).length = 1 := rfl
  have h2 : (("]" : Str)).length = 1 := rfl
  omega
theorem Sh.tup {n d : Nat} {xs : List Pv} (h : Shs n d xs) : Sh (n + 3) (d + 1) (.tup xs) :=
  ⟨h.1, h.2.1, Nat.le_trans (tupText_le _) (Nat.add_le_add_right h.2.2.1 3), Nat.succ_le_succ h.2.2.2⟩
theorem Sh.lst {n d : Nat} {xs : List Pv} (h : Shs n d xs) : Sh (n + 3) (d + 1) (.lst xs) :=
  ⟨h.1, h.2.1, Nat.le_trans (Nat.le_trans (listText_le _) (Nat.le_succ _)) (Nat.add_le_add_right h.2.2.1 3), Nat.succ_le_succ h.2.2.2⟩
theorem Sh.bl (b : Bool) {d : Nat} : Sh 5 d (.bl b) := ⟨rfl, rfl, by cases b <;> decide, Nat.zero_le _⟩
theorem Sh.non {d : Nat} : Sh 5 d .non := ⟨rfl, rfl, by decide, Nat.zero_le _⟩
theorem int_len {n : Nat} {i : Int} (h : szI n i) : (Str.ofString (toString i)).length ≤ n + 2 := by
  rw [PySem.ofString_length]
  have h' : i.natAbs.log2 < n + 1 := PySem.Flt.log2_lt_of (Nat.succ_pos n) (h.up (Nat.le_succ n))
  exact int_text_length_le (Nat.succ_pos n) h'
theorem Sh.int {n d : Nat} {i : Int} (h : szI n i) (l : n ≤ 1900) : Sh (n + 2) d (.int i) := by
  refine ⟨rfl, ?_, int_len h, Nat.zero_le _⟩
  have h' := (h.up (Nat.le_succ n))
  exact decide_eq_true (Nat.lt_of_lt_of_le (PySem.Flt.log2_lt_of (Nat.succ_pos n) h') (by omega))
theorem Sh.fr {n d : Nat} {q : Rat} (h : Sz n q) (l : n ≤ 1900) : Sh (2 * n + 11) (d + 1) (fr q) :=
  (Sh.tup (Shs.cons (Sh.int (d := d) h.1 l) (Shs.cons (Sh.int h.2 l) Shs.nil))).up (by omega) (Nat.le_refl _)
theorem Sh.pt {n d : Nat} {q : Rat × Rat} (h : Sz n q.1 ∧ Sz n q.2) (l : n ≤ 1900) : Sh (4 * n + 29) (d + 2) (pt q) :=
  (Sh.tup (Shs.cons (Sh.fr (d := d) h.1 l) (Shs.cons (Sh.fr h.2 l) Shs.nil))).up (by omega) (Nat.le_refl _)
theorem Sh.ok {n d : Nat} {p : Pv} (h : Sh n d p) (l : n ≤ 16000000) (l' : d ≤ 60) : okR p := ⟨by rw [h.1]; rfl, h.2.1, Nat.le_trans h.2.2.2 l', Nat.le_trans h.2.2.1 (Nat.le_trans l (by decide))⟩

/-! ### == of data -/
mutual
theorem eqv_refl : ∀ p : Pv, isD p = true → PyData.eqv (toD p) (toD p) = true
  | .non, _ => rfl
  | .bl b, _ => by show (b == b) = true; simp
  | .int i, _ => by show (i == i) = true; simp
  | .str x, _ => by show (x == x) = true; simp
  | .tup xs, h => eqvs_refl xs h
  | .lst xs, h => eqvs_refl xs h
  | .scr xs, h => eqvs_refl xs h
  | .dct _ _, h => by cases h
  | .ref _, h => by cases h
  | .ty _, h => by cases h
theorem eqvs_refl : ∀ ps : List Pv, isDs ps = true → PyData.eqvAll (toDs ps) (toDs ps) = true
  | [], _ => rfl
  | p :: ps, h => by
    have h' : isD p = true ∧ isDs ps = true := by simpa [isDs] using h
    show (PyData.eqv (toD p) (toD p) && PyData.eqvAll (toDs ps) (toDs ps)) = true
    rw [eqv_refl p h'.1, eqvs_refl ps h'.2]; rfl
end
theorem eqv_fr (p q : Rat) : PyData.eqv (toD (fr p)) (toD (fr q)) = decide (p = q) := by
  show ((p.num == q.num) && (((p.den : Int) == (q.den : Int)) && true)) = _
  rw [Bool.and_true, Bool.eq_iff_iff]
  simp only [Bool.and_eq_true, beq_iff_eq, decide_eq_true_eq]
  constructor
  · rintro ⟨h1, h2⟩
    exact Rat.ext h1 (by omega)
  · rintro rfl
    exact ⟨rfl, rfl⟩
theorem eqv_pt (p q : Rat × Rat) : PyData.eqv (toD (pt p)) (toD (pt q)) = decide (p = q) := by
  show (PyData.eqv (toD (fr p.1)) (toD (fr q.1)) && (PyData.eqv (toD (fr p.2)) (toD (fr q.2)) && true)) = _
  rw [eqv_fr, eqv_fr, Bool.and_true, Bool.eq_iff_iff]
  simp only [Bool.and_eq_true, decide_eq_true_eq]
  constructor
  · rintro ⟨h1, h2⟩
    exact Prod.ext h1 h2
  · rintro rfl
    exact ⟨rfl, rfl⟩
theorem okD_fr (q : Rat) : okD (fr q) = true := by
  unfold okD; rfl
end PL
namespace PL
open PySem PySem.Spec PyProof.Rows L2
/-! ### loops, the store -/
theorem forW_ind {gd : Sto → Prop} {t : Tg} {b : PFS} {D : Ends'} {P : Pv → Prop} (I : Env' → Sto → Prop) : ∀ {its : List Pv} {ρ : Env'} {S : Sto}, (∀ x ∈ its, P x) → I ρ S → (∀ ρ S, I ρ S → gd S ∧ D.nx ρ S) →
    (∀ x, P x → ∀ (k : Env' → Sto → Prop), (∀ ρ S, I ρ S → k ρ S) → ∀ ρ S, I ρ S → gd S ∧ match bindT S t x ρ with | some ρ' => b { nx := k, rt := D.rt, bk := D.nx, ct := k } ρ' S | none => False) → forW gd t b D its ρ S
  | [], ρ, S, _, h0, fin, _ => fin ρ S h0
  | x :: xs, ρ, S, hP, h0, fin, step => step x (hP x List.mem_cons_self) (forW gd t b D xs) (fun ρ' S' h => forW_ind I (fun y hy => hP y (List.mem_cons_of_mem _ hy)) h fin step) ρ S h0
theorem rng_mem {n : Int} {x : Pv} (h : x ∈ rngP 0 n) : ∃ k : Nat, x = .int k := by
  unfold rngP at h
  obtain ⟨k, _, e⟩ := List.mem_map.mp h
  exact ⟨k, by rw [← e]; simp⟩
@[simp] theorem ckL_put {S : Sto} {a : Addr} {xs : List Pv} : ckL (put S a (.lst xs)) (.ref a) = true := by simp [ckL, rdL]
@[simp] theorem rdL_put {S : Sto} {a : Addr} {xs : List Pv} : rdL (put S a (.lst xs)) (.ref a) = some xs := by simp [rdL]
@[simp] theorem rdM_put {S : Sto} {a : Addr} {xs : List Pv} : rdM (put S a (.lst xs)) (.ref a) = some xs := by simp [rdM]
@[simp] theorem top_put {S : Sto} {a : Addr} {xs : List Pv} : top (put S a (.lst xs)) (.ref a) = .lst xs := by simp [top]
theorem app_i {S : Sto} {a : Addr} {xs : List Pv} {p : Pv} {Q : QV} (h : S a = some (.lst xs)) (l : xs.length < sizeLine) (q : Q .non (put S a (.lst (xs ++ [p])))) : oAppend (.ref a) [p] S Q := by
  unfold oAppend
  show match S a with | some (.lst xs) => xs.length < sizeLine ∧ Q .non (put S a (.lst (xs ++ [p]))) | _ => False
  rw [h]
  exact ⟨l, q⟩
theorem app_w {S : Sto} {a : Addr} {xs ys : List Pv} {p : Pv} {Q : QV} (h : S a = some (.lst xs)) (l : xs.length < sizeLine) (e : xs ++ [p] = ys) (q : ∀ S', S' a = some (.lst ys) → (∀ b, b ≠ a → S' b = S b) → Q .non S') : oAppend (.ref a) [p] S Q := app_i h l (q _ (by rw [e]; exact put_same) fun b hb => put_ne hb)
theorem ix_i {S : Sto} {a : Addr} {xs : List Pv} {i : Int} {p : Pv} {Q : QV} (h : S a = some (.lst xs)) (e : atI xs i = some p) (q : Q p S) : oIx (.ref a) (.int i) S Q := by
  show match rdL S (.ref a) with | some xs => (match atI xs i with | some p => Q p S | none => False) | none => False
  have e0 : rdL S (.ref a) = some xs := by simp [rdL, h]
  rw [e0]
  show match atI xs i with | some p => Q p S | none => False
  rw [e]
  exact q
/-- a test that is known -/
theorem cnd_t {b : Bool} {p q : Prop} (e : b = true) (h : p) : cnd b p q := by rw [e]; exact h
theorem cnd_f {b : Bool} {p q : Prop} (e : b = false) (h : q) : cnd b p q := by rw [e]; exact h
/-! ### amounts -/
theorem absR_sub (a b : Rat) : absR (a - b) = absR (b - a) := by unfold absR; grind
theorem absR_tri (a b c : Rat) : absR (a - c) ≤ absR (a - b) + absR (b - c) := by unfold absR; grind
theorem absR_nn (a : Rat) : 0 ≤ absR a := by unfold absR; grind
theorem absR_zero (a b : Rat) : absR (a - b) = 0 ↔ a = b := by unfold absR; grind
end PL
namespace PL
open PySem PySem.Spec PyProof.Rows L2
/-! ### lists told by a rule -/
/-- S' has what S has -/
abbrev Has (S S' : Sto) : Prop := ∀ b m, S b = some m → S' b = some m
theorem Has.put {S : Sto} {D : Addr} {m : Mo} (h : S D = none) : Has S (put S D m) := fun b n e => by
  rw [put_ne (fun z => by rw [z, h] at e; cases e)]; exact e
theorem lcW_pure {α : Type} {gd : Sto → Prop} {t : Tg} {tt : PFB} {te : PF} {ρ : Env'} {D : Addr} {Q : List Pv → Sto → Prop} {S : Sto} (g : α → Pv) (c : α → Bool) (f : α → Pv) (hD : S D = none) (hg : ∀ S', Has S S' → gd S') : ∀ (xs : List α) (acc : List Pv), acc.length + xs.length ≤ sizeLine →
    (∀ x ∈ xs, ∀ S', Has S S' → ∃ ρ2, bindT S' t (g x) ρ = some ρ2 ∧ (∀ kk : Bool → Sto → Prop, kk (c x) S' → tt ρ2 S' kk) ∧ (c x = true → ∀ k : QV, k (f x) S' → te ρ2 S' k)) → Q (acc ++ (xs.filter c).map f) S → lcW gd t tt te ρ D Q (xs.map g) acc S
  | [], acc, _, _, q => ⟨hg _ (Has.put hD), by simpa using q⟩
  | x :: xs, acc, l, h, q => by
    have l' : acc.length + (xs.length + 1) ≤ sizeLine := l
    refine ⟨hg _ (Has.put hD), ?_⟩
    obtain ⟨ρ2, e, h1, h2⟩ := h x List.mem_cons_self _ (Has.put (m := .lst acc) hD)
    rw [e]
    have hr := fun y hy => h y (List.mem_cons_of_mem x hy)
    refine h1 _ ?_
    cases hc : c x with
    | true =>
      refine h2 hc _ ⟨put_same, by omega, ?_⟩
      rw [del_put hD]
      refine lcW_pure g c f hD hg xs _ (by rw [List.length_append]; simp; omega) hr ?_
      rw [List.filter_cons, hc] at q
      simpa using q
    | false =>
      refine ⟨put_same, ?_⟩
      rw [del_put hD]
      refine lcW_pure g c f hD hg xs _ (by omega) hr ?_
      rw [List.filter_cons, hc] at q
      simpa using q
theorem lc_map {α : Type} {gd : Sto → Prop} {t : Tg} {te : PF} {ρ : Env'} {Q : List Pv → Sto → Prop} {S : Sto} {its : List Pv} (xs : List α) (g f : α → Pv) (e : its = xs.map g) (l : xs.length ≤ sizeLine) (hg : ∀ S', Has S S' → gd S') (h : ∀ x ∈ xs, ∀ S', Has S S' → ∃ ρ2, bindT S' t (g x) ρ = some ρ2 ∧ ∀ k : QV, k (f x) S' → te ρ2 S' k) (q : Q (xs.map f) S) : ∀ D, S D = none → lcW gd t fYes te ρ D Q its [] S :=
  fun D hD => by
    rw [e]
    exact lcW_pure g (fun _ => true) f hD hg xs [] (by simpa using l) (fun x hx S' hs => by
      obtain ⟨ρ2, e, h1⟩ := h x hx S' hs
      exact ⟨ρ2, e, fun kk h => h, fun _ k z => h1 k z⟩) (by rw [List.filter_eq_self.mpr (fun _ _ => rfl)]; exact q)
theorem lc_filter {α : Type} {gd : Sto → Prop} {t : Tg} {tt : PFB} {te : PF} {ρ : Env'} {Q : List Pv → Sto → Prop} {S : Sto} {its : List Pv} (xs : List α) (g : α → Pv) (c : α → Bool) (f : α → Pv) (e : its = xs.map g) (l : xs.length ≤ sizeLine) (hg : ∀ S', Has S S' → gd S')
    (h : ∀ x ∈ xs, ∀ S', Has S S' → ∃ ρ2, bindT S' t (g x) ρ = some ρ2 ∧ (∀ kk : Bool → Sto → Prop, kk (c x) S' → tt ρ2 S' kk) ∧ (c x = true → ∀ k : QV, k (f x) S' → te ρ2 S' k)) (q : Q ((xs.filter c).map f) S) : ∀ D, S D = none → lcW gd t tt te ρ D Q its [] S :=
  fun D hD => by
    rw [e]
    exact lcW_pure g c f hD hg xs [] (by simpa using l) h (by simpa using q)
/-- .. items that change the store -/
theorem lcW_ind {gd : Sto → Prop} {t : Tg} {te : PF} {ρ : Env'} {D : Addr} {Q : List Pv → Sto → Prop} (I : List Pv → Sto → Prop) (hg : ∀ S', gd S') (P : Pv → Prop) : ∀ (its acc : List Pv) (S : Sto), acc.length + its.length ≤ sizeLine → (∀ x ∈ its, P x) → S D = none → I acc S → (∀ acc S, acc.length ≤ sizeLine → S D = none → I acc S → Q acc S) →
    (∀ x, P x → ∀ acc S (k : QV), S D = none → I acc S → (∀ y S3, S3 D = some (.lst acc) → I (acc ++ [y]) (del S3 D) → k y S3) → ∃ ρ2, bindT (put S D (.lst acc)) t x ρ = some ρ2 ∧ te ρ2 (put S D (.lst acc)) k) → lcW gd t fYes te ρ D Q its acc S
  | [], acc, S, l, _, hD, h0, fin, _ => ⟨hg _, fin _ _ (by simpa using l) hD h0⟩
  | x :: xs, acc, S, l, hP, hD, h0, fin, st => by
    have l' : acc.length + (xs.length + 1) ≤ sizeLine := l
    refine ⟨hg _, ?_⟩
    obtain ⟨ρ2, e, h⟩ := st x (hP x List.mem_cons_self) acc S (fun y S3 => S3 D = some (.lst acc) ∧ acc.length < sizeLine ∧ lcW gd t fYes te ρ D Q xs (acc ++ [y]) (del S3 D)) hD h0 (fun y S3 e i => ⟨e, by omega, lcW_ind I hg P xs _ _ (by rw [List.length_append]; simp; omega) (fun y hy => hP y (List.mem_cons_of_mem _ hy)) del_same i fin st⟩)
    rw [e]
    exact h
end PL
namespace PL
open PySem PySem.Spec PyProof.Rows L2
/-! ### kinds of things -/
def kdP : Pv → Tk
  | .non => .non | .bl _ => .bl | .int _ => .int | .str _ => .str | .tup _ => .tup | .lst _ => .lst | .scr _ => .lst | .dct _ _ => .dct | .ref _ => .non | .ty _ => .non
theorem tyP_of {S : Sto} {x : Pv} (h : tyD x = true) : tyP S x = some (kdP x) := by
  cases x with
  | ref a => cases h
  | ty n => cases h
  | _ => rfl
theorem isi_i {S : Sto} {x : Pv} {c : Tk} {Q : QV} (h : tyD x = true) (q : Q (.bl (isiT (kdP x) c)) S) : oIsi c x S Q := by
  unfold oIsi
  rw [tyP_of h]
  exact q
end PL
namespace PL
open PySem PySem.Spec PyProof.Rows L2
/-- a loop whose invariant knows what has been walked -/
theorem forW_acc {α : Type} {gd : Sto → Prop} {t : Tg} {b : PFS} {D : Ends'} (g : α → Pv) (all : List α) (I : List α → Env' → Sto → Prop) (fin : ∀ ρ S, I all ρ S → gd S ∧ D.nx ρ S)
    (step : ∀ (pre : List α) (x : α) (post : List α), pre ++ x :: post = all → ∀ (k : Env' → Sto → Prop), (∀ ρ S, I (pre ++ [x]) ρ S → k ρ S) → ∀ ρ S, I pre ρ S → gd S ∧ match bindT S t (g x) ρ with | some ρ' => b { nx := k, rt := D.rt, bk := D.nx, ct := k } ρ' S | none => False) :
    ∀ (pre xs : List α) (ρ : Env') (S : Sto), pre ++ xs = all → I pre ρ S → forW gd t b D (xs.map g) ρ S
  | pre, [], ρ, S, e, h => by
    rw [List.append_nil] at e
    subst e
    exact fin ρ S h
  | pre, x :: xs, ρ, S, e, h => step pre x xs e (forW gd t b D (xs.map g)) (fun ρ' S' h' => forW_acc g all I fin step (pre ++ [x]) xs ρ' S' (by rw [List.append_assoc]; exact e) h') ρ S h
end PL
namespace PL
open PySem PySem.Spec PyProof.Rows L2
theorem allBl_map {α : Type} (f : α → Bool) : ∀ xs : List α, allBl (xs.map fun x => .bl (f x)) = some (xs.map f)
  | [] => rfl
  | x :: xs => by
    show (allBl (xs.map fun x => .bl (f x))).map (f x :: ·) = _
    rw [allBl_map f xs]
    rfl
theorem all_i {α : Type} {S : Sto} {Q : QV} {f : α → Bool} {xs : List α} (q : Q (.bl ((xs.map f).all id)) S) : oAll [.lst (xs.map fun x => .bl (f x))] S Q := by
  show match (some (xs.map fun x => Pv.bl (f x))).bind allBl with | some bs => Q (.bl (bs.all id)) S | none => False
  rw [Option.bind_some, allBl_map]
  exact q
end PL
namespace PL
open PySem PySem.Spec PyProof.Rows L2
/-- .. and the list is as long as what was walked -/
theorem lcW_indN {gd : Sto → Prop} {t : Tg} {te : PF} {ρ : Env'} {D : Addr} {Q : List Pv → Sto → Prop} (I : List Pv → Sto → Prop) (hg : ∀ S', gd S') (P : Pv → Prop) (N : Nat) (hN : N ≤ sizeLine) : ∀ (its acc : List Pv) (S : Sto), acc.length + its.length = N → (∀ x ∈ its, P x) → S D = none → I acc S → (∀ acc S, acc.length = N → S D = none → I acc S → Q acc S) →
    (∀ x, P x → ∀ acc S (k : QV), S D = none → I acc S → (∀ y S3, S3 D = some (.lst acc) → I (acc ++ [y]) (del S3 D) → k y S3) → ∃ ρ2, bindT (put S D (.lst acc)) t x ρ = some ρ2 ∧ te ρ2 (put S D (.lst acc)) k) → lcW gd t fYes te ρ D Q its acc S
  | [], acc, S, l, _, hD, h0, fin, _ => ⟨hg _, fin _ _ (by simpa using l) hD h0⟩
  | x :: xs, acc, S, l, hP, hD, h0, fin, st => by
    have l' : acc.length + (xs.length + 1) = N := l
    refine ⟨hg _, ?_⟩
    obtain ⟨ρ2, e, h⟩ := st x (hP x List.mem_cons_self) acc S (fun y S3 => S3 D = some (.lst acc) ∧ acc.length < sizeLine ∧ lcW gd t fYes te ρ D Q xs (acc ++ [y]) (del S3 D)) hD h0 (fun y S3 e i => ⟨e, by omega, lcW_indN I hg P N hN xs _ _ (by rw [List.length_append]; simp; omega) (fun y hy => hP y (List.mem_cons_of_mem _ hy)) del_same i fin st⟩)
    rw [e]
    exact h
end PL
namespace PL
open PySem PySem.Spec PyProof.Rows L2
theorem at_map {α : Type} {xs : List α} {f : α → Pv} {r : Int} {P : α → Prop} (h0 : 0 ≤ r) (h : r < xs.length) (hP : ∀ n ∈ xs, P n) : ∃ n, atI (xs.map f) r = some (f n) ∧ P n := by
  obtain ⟨p, e, hp⟩ := at_of (xs := xs.map f) h0 (by simpa using h)
  obtain ⟨n, hn, rfl⟩ := List.mem_map.mp hp
  exact ⟨n, e, hP n hn⟩
end PL

/-! Points. -/
namespace PL
open PySem PySem.Spec PyProof.Rows L2
def stepsR (p q : Rat × Rat) : Rat × Rat := (absR (p.1 - q.1), absR (p.2 - q.2))
def SzP (n : Nat) (p : Rat × Rat) : Prop := Sz n p.1 ∧ Sz n p.2
theorem SzP.up {n m : Nat} {p : Rat × Rat} (h : SzP n p) (l : n ≤ m) : SzP m p := ⟨h.1.up l, h.2.up l⟩
theorem SzP.steps {n m : Nat} {p q : Rat × Rat} (h : SzP n p) (h' : SzP m q) : SzP (n + m + 1) (stepsR p q) := ⟨(h.1.sub h'.1).abs, (h.2.sub h'.2).abs⟩
def sqR (p q : Rat × Rat) : Rat := (stepsR p q).1 * (stepsR p q).1 + (stepsR p q).2 * (stepsR p q).2
def stR (p q : Rat × Rat) : Rat := (stepsR p q).1 + (stepsR p q).2
def bxR (p q : Rat × Rat) : Rat := if (stepsR p q).1 < (stepsR p q).2 then (stepsR p q).2 else (stepsR p q).1
def crossR (p q r : Rat × Rat) : Rat := (q.1 - p.1) * (r.2 - p.2) - (q.2 - p.2) * (r.1 - p.1)
theorem Sz.cross {n : Nat} {p q r : Rat × Rat} (h1 : SzP n p) (h2 : SzP n q) (h3 : SzP n r) : Sz (8 * n + 5) (crossR p q r) :=
  (((h2.1.sub h1.1).mul (h3.2.sub h1.2)).sub ((h2.2.sub h1.2).mul (h3.1.sub h1.1))).up (by omega)
theorem sgn_eq (i : Int) : (if decide (i > 0) = true then (1 : Int) else 0) - (if decide (i < 0) = true then 1 else 0) = i.sign := by
  rcases Int.lt_trichotomy i 0 with h | h | h
  · rw [Int.sign_eq_neg_one_of_neg h, if_neg (by simp; omega), if_pos (by simpa using h)]; rfl
  · subst h; rfl
  · rw [Int.sign_eq_one_of_pos h, if_pos (by simpa using h), if_neg (by simp; omega)]; rfl
theorem sq_nn (x : Rat) : 0 ≤ x * x := by
  rcases (Rat.le_total : (0 : Rat) ≤ x ∨ x ≤ 0) with h | h
  · exact Rat.mul_nonneg h h
  · have : 0 ≤ (-x) * (-x) := Rat.mul_nonneg (by grind) (by grind)
    grind
theorem sq_zero {x y : Rat} : x * x + y * y = 0 ↔ x = 0 ∧ y = 0 := by
  constructor
  · intro h
    have h1 := sq_nn x
    have h2 := sq_nn y
    have h3 : x * x = 0 := by grind
    have h4 : y * y = 0 := by grind
    exact ⟨by rcases Rat.mul_eq_zero.mp h3 with h | h <;> exact h, by rcases Rat.mul_eq_zero.mp h4 with h | h <;> exact h⟩
  · rintro ⟨rfl, rfl⟩; grind
theorem stepsR_comm (p q : Rat × Rat) : stepsR p q = stepsR q p := by unfold stepsR; rw [absR_sub, absR_sub p.2]
theorem sqR_comm (p q : Rat × Rat) : sqR p q = sqR q p := by unfold sqR; rw [stepsR_comm]
theorem stR_comm (p q : Rat × Rat) : stR p q = stR q p := by unfold stR; rw [stepsR_comm]
theorem bxR_comm (p q : Rat × Rat) : bxR p q = bxR q p := by unfold bxR; rw [stepsR_comm]
theorem sqR_zero (p q : Rat × Rat) : sqR p q = 0 ↔ p = q := by
  unfold sqR
  rw [sq_zero]
  unfold stepsR
  rw [absR_zero, absR_zero]
  exact ⟨fun h => Prod.ext h.1 h.2, fun h => by rw [h]; exact ⟨rfl, rfl⟩⟩
theorem stR_tri (p r q : Rat × Rat) : ¬ (stR p r + stR r q < stR p q) := by
  have h1 := absR_tri p.1 r.1 q.1
  have h2 := absR_tri p.2 r.2 q.2
  unfold stR stepsR
  grind
theorem bxR_tri (p r q : Rat × Rat) : ¬ (bxR p r + bxR r q < bxR p q) := by
  have h1 := absR_tri p.1 r.1 q.1
  have h2 := absR_tri p.2 r.2 q.2
  unfold bxR stepsR
  grind
theorem sign_of_mul {i : Int} {q : Rat} {d : Int} (hd : 0 < d) (h : (i : Rat) = q * d) : i.sign = q.num.sign := by
  have hd' : (0 : Rat) < (d : Rat) := by exact_mod_cast hd
  rcases Int.lt_trichotomy q.num 0 with a | a | a
  · have a' : q < 0 := (num_neg_iff q).mpr a
    have : (i : Rat) < 0 := by
      rw [h]
      have := Rat.mul_lt_mul_of_pos_right a' hd'
      simpa using this
    rw [Int.sign_eq_neg_one_of_neg a, Int.sign_eq_neg_one_of_neg (by exact_mod_cast this)]
  · have a' : q = 0 := Rat.num_eq_zero.mp a
    rw [a'] at h
    have : (i : Rat) = 0 := by rw [h]; simp
    have : i = 0 := by exact_mod_cast this
    rw [this, a]
  · have a' : 0 < q := by
      have h1 : ¬ q < 0 := fun e => by have := (num_neg_iff q).mp e; omega
      have h2 : q ≠ 0 := fun e => by rw [e] at a; exact absurd a (by decide)
      grind
    have : (0 : Rat) < i := by
      rw [h]
      exact Rat.mul_pos a' hd'
    rw [Int.sign_eq_one_of_pos a, Int.sign_eq_one_of_pos (by exact_mod_cast this)]
theorem cast_div (z : Int) : (z : Rat) = Rat.divInt z 1 := by
  have h := Rat.num_divInt_den (z : Rat)
  rw [Rat.num_intCast, Rat.den_intCast] at h
  exact h.symm
theorem mul_den (x : Rat) : x * ((x.den : Int) : Rat) = (x.num : Rat) := by
  have e : x * ((x.den : Int) : Rat) = Rat.divInt x.num x.den * Rat.divInt x.den 1 := by
    rw [Rat.num_divInt_den, ← cast_div]
  rw [e, Rat.divInt_mul_divInt, Int.mul_comm x.num, Rat.divInt_mul_left (den_ne x), ← cast_div]
theorem Int.cast_mul' (a b : Int) : ((a * b : Int) : Rat) = (a : Rat) * (b : Rat) := Rat.intCast_mul a b
theorem whole_of {x : Rat} {D : Int} (h : (x.den : Int) ∣ D) : ((x.num * D.fdiv x.den : Int) : Rat) = x * D := by
  obtain ⟨c, rfl⟩ := h
  have e : ((x.den : Int) * c).fdiv x.den = c := by rw [Int.mul_comm]; exact Int.mul_fdiv_cancel _ (den_ne x)
  rw [e]
  have h2 := mul_den x
  rw [Int.cast_mul', Int.cast_mul', ← Rat.mul_assoc, h2]
/-! ### over, maps -/
theorem div_eq (p q : Rat) : p / q = Rat.divInt (p.num * q.den) (p.den * q.num) := by
  have h : q⁻¹ = Rat.divInt q.den q.num := by
    have := Rat.inv_divInt q.num q.den
    rw [Rat.num_divInt_den] at this
    exact this
  rw [Rat.div_def, h]
  have e := Rat.divInt_mul_divInt p.num (q.den : Int) (d₁ := p.den) (d₂ := q.num)
  rw [Rat.num_divInt_den] at e
  exact e
theorem Sz.div {n m : Nat} {p q : Rat} (h : Sz n p) (h' : Sz m q) (hq : q ≠ 0) : Sz (n + m) (p / q) := by
  rw [div_eq]
  have : q.num ≠ 0 := fun e => hq (Rat.num_eq_zero.mp e)
  exact divInt_sz (Int.mul_ne_zero (den_ne p) this) (h.1.mul h'.2) (h.2.mul h'.1)
theorem Sz.zero : Sz 1 (0 : Rat) := by unfold Sz szI; decide
theorem Sz.one : Sz 1 (1 : Rat) := by unfold Sz szI; decide
structure Mp where
  (a b c d e f : Rat)
def mp (w : Mp) : Pv := .tup [fr w.a, fr w.b, fr w.c, fr w.d, fr w.e, fr w.f]
structure SzM (n : Nat) (w : Mp) : Prop where
  (a : Sz n w.a) (b : Sz n w.b) (c : Sz n w.c) (d : Sz n w.d) (e : Sz n w.e) (f : Sz n w.f)
theorem SzM.up {n m : Nat} {w : Mp} (h : SzM n w) (l : n ≤ m) : SzM m w := ⟨h.a.up l, h.b.up l, h.c.up l, h.d.up l, h.e.up l, h.f.up l⟩
def ownR (w : Mp) : Rat := w.a * w.d - w.b * w.c
def ledR (w : Mp) (p : Rat × Rat) : Rat × Rat := (w.a * p.1 + w.b * p.2 + w.e, w.c * p.1 + w.d * p.2 + w.f)
def strR (w : Mp) : Mp := ⟨w.a, w.b, w.c, w.d, 0, 0⟩
def joinR (w o : Mp) : Mp := ⟨(ledR (strR o) (w.a, w.c)).1, (ledR (strR o) (w.b, w.d)).1, (ledR (strR o) (w.a, w.c)).2, (ledR (strR o) (w.b, w.d)).2, (ledR o (w.e, w.f)).1, (ledR o (w.e, w.f)).2⟩
def turnedR (w : Mp) : Mp := ⟨w.d / ownR w, 0 - w.b / ownR w, 0 - w.c / ownR w, w.a / ownR w, 0, 0⟩
def backR (w : Mp) : Mp := ⟨(turnedR w).a, (turnedR w).b, (turnedR w).c, (turnedR w).d, 0 - (ledR (turnedR w) (w.e, w.f)).1, 0 - (ledR (turnedR w) (w.e, w.f)).2⟩
theorem Sz.own {n : Nat} {w : Mp} (h : SzM n w) : Sz (4 * n + 1) (ownR w) := ((h.a.mul h.d).sub (h.b.mul h.c)).up (by omega)
theorem SzP.led {n m : Nat} {w : Mp} {p : Rat × Rat} (h : SzM n w) (h' : SzP m p) : SzP (3 * n + 2 * m + 2) (ledR w p) :=
  ⟨(((h.a.mul h'.1).add (h.b.mul h'.2)).add h.e).up (by omega), (((h.c.mul h'.1).add (h.d.mul h'.2)).add h.f).up (by omega)⟩
end PL

/-! Codes of tiles: texts of the figures 0 to 3. -/
namespace PL
open PySem PySem.Spec PyProof.Rows L2
def cdS (ds : List Nat) : Str := ⟨(ds.map (· + 48)).toArray⟩
abbrev fg (d : Nat) : Pv := .str ⟨#[d + 48]⟩
theorem cd_chars (ds : List Nat) : chars (cdS ds) = ds.map fg := by
  unfold chars cdS
  simp [List.map_map]
theorem cd_len (ds : List Nat) : (cdS ds).length = ds.length := by
  unfold cdS Str.length
  simp
theorem cd_app (ds es : List Nat) : cdS ds ++ cdS es = cdS (ds ++ es) := by
  unfold cdS
  show Str.mk _ = _
  simp
theorem cd_nil : cdS [] = "" := rfl
theorem lt4 {d : Nat} (h : d < 4) : d = 0 ∨ d = 1 ∨ d = 2 ∨ d = 3 := by omega
/-- column and row -/
def spN : List Nat → Nat × Nat
  | ds => ds.foldl (fun a d => (2 * a.1 + d % 2, 2 * a.2 + d / 2)) (0, 0)
theorem spN_snoc (ds : List Nat) (d : Nat) : spN (ds ++ [d]) = (2 * (spN ds).1 + d % 2, 2 * (spN ds).2 + d / 2) := by
  unfold spN
  rw [List.foldl_append]
  rfl
theorem spN_lt : ∀ (n : Nat) (ds : List Nat), ds.length = n → (∀ d ∈ ds, d < 4) → (spN ds).1 < 2 ^ n ∧ (spN ds).2 < 2 ^ n := by
  intro n
  induction n with
  | zero =>
    intro ds h _
    have : ds = [] := List.length_eq_zero_iff.mp h
    subst this
    decide
  | succ n ih =>
    intro ds h hd
    have hne : ds ≠ [] := by rintro rfl; simp at h
    obtain ⟨es, d, rfl⟩ : ∃ es d, ds = es ++ [d] := ⟨ds.dropLast, ds.getLast hne, (List.dropLast_concat_getLast hne).symm⟩
    have hl : es.length = n := by simpa using h
    have h1 := ih es hl (fun x hx => hd x (by simp [hx]))
    have h2 : d < 4 := hd d (by simp)
    rw [spN_snoc, Nat.pow_succ]
    constructor
    · show 2 * (spN es).1 + d % 2 < _
      omega
    · show 2 * (spN es).2 + d / 2 < _
      omega
/-- the box of a code: x, y, side -/
def boxR (ds : List Nat) : Rat × Rat × Rat := (Rat.divInt (64 * (spN ds).1) (2 ^ ds.length), Rat.divInt (64 * (spN ds).2) (2 ^ ds.length), Rat.divInt 64 (2 ^ ds.length))
def bx3 (b : Rat × Rat × Rat) : Pv := .tup [fr b.1, fr b.2.1, fr b.2.2]
theorem pow2_ne (n : Nat) : ((2 : Int) ^ n) ≠ 0 := by
  have := Int.pow_pos (n := 2) (m := n) (by decide); omega
theorem boxR_nil : boxR [] = (0, 0, 64) := by decide +kernel
theorem half (t : Int) (n : Nat) : Rat.divInt t (2 ^ n) = Rat.divInt (2 * t) (2 ^ (n + 1)) := by
  rw [Int.pow_succ, Int.mul_comm ((2 : Int) ^ n) 2, Rat.divInt_mul_left (by decide)]
theorem divInt_two (t : Int) (n : Nat) : Rat.divInt t (2 ^ n) / 2 = Rat.divInt t (2 ^ (n + 1)) := by
  rw [half t n]
  have h : Rat.divInt (2 * t) (2 ^ (n + 1)) = 2 * Rat.divInt t (2 ^ (n + 1)) := by
    have e := Rat.divInt_mul_divInt 2 t (d₁ := 1) (d₂ := 2 ^ (n + 1))
    rw [Int.one_mul, ← cast_div] at e
    exact e.symm
  rw [h]
  grind
theorem divInt_add' (s t : Int) (n : Nat) : Rat.divInt s (2 ^ n) + Rat.divInt t (2 ^ n) = Rat.divInt (s + t) (2 ^ n) := by
  rw [Rat.divInt_add_divInt _ _ (pow2_ne n) (pow2_ne n), ← Int.add_mul, Rat.divInt_mul_right (pow2_ne n)]
theorem boxR_snoc (ds : List Nat) (d : Nat) : boxR (ds ++ [d]) = (if d % 2 = 1 then (boxR ds).1 + (boxR ds).2.2 / 2 else (boxR ds).1, if d / 2 % 2 = 1 then (boxR ds).2.1 + (boxR ds).2.2 / 2 else (boxR ds).2.1, (boxR ds).2.2 / 2) ∨ 4 ≤ d := by
  by_cases hd : d < 4
  · left
    unfold boxR
    simp only [spN_snoc, List.length_append, List.length_cons, List.length_nil]
    rw [divInt_two]
    have hx : ∀ (c m : Nat), m < 2 → Rat.divInt (64 * ((2 * c + m : Nat) : Int)) (2 ^ (ds.length + (0 + 1))) = if m = 1 then Rat.divInt (64 * (c : Int)) (2 ^ ds.length) + Rat.divInt 64 (2 ^ (ds.length + 1)) else Rat.divInt (64 * (c : Int)) (2 ^ ds.length) := by
      intro c m hm
      rw [half (64 * (c : Int)), divInt_add']
      split
      · congr 1
        omega
      · congr 1
        omega
    rw [hx _ _ (by omega), hx _ (d / 2) (by omega)]
    have e : d / 2 % 2 = d / 2 := by omega
    rw [e]
  · right; omega
theorem SzB (ds : List Nat) (h : ∀ d ∈ ds, d < 4) (l : ds.length ≤ 100) : Sz 120 (boxR ds).1 ∧ Sz 120 (boxR ds).2.1 ∧ Sz 120 (boxR ds).2.2 := by
  have hl := spN_lt ds.length ds rfl h
  have hp : (2 : Nat) ^ ds.length ≤ 2 ^ 100 := Nat.pow_le_pow_right (by decide) l
  have hb : szI 120 ((2 : Int) ^ ds.length) := by
    unfold szI
    rw [show ((2 : Int) ^ ds.length) = ((2 ^ ds.length : Nat) : Int) by simp, Int.natAbs_natCast]
    omega
  refine ⟨divInt_sz (pow2_ne _) ?_ hb, divInt_sz (pow2_ne _) ?_ hb, divInt_sz (pow2_ne _) (by unfold szI; decide) hb⟩
  · unfold szI; omega
  · unfold szI; omega
theorem occ_fg {d : Nat} (h : d < 4) : Builtin.Str.occurrences (Str.ofString "0123") { cps := #[d + 48] } 0 (Str.ofString "0123").length 1 = [d] := by
  rcases lt4 h with rfl | rfl | rfl | rfl <;> decide +kernel
theorem len_cd {S : Sto} {ds : List Nat} (h : ds.length ≤ 9) : lenP S (.str (cdS ds)) = some ds.length := by
  show (if (cdS ds).length ≤ sizeLine then some (cdS ds).length else none) = _
  rw [cd_len, if_pos (Nat.le_trans h (by decide))]
theorem in_fg {d : Nat} (h : d < 4) : inTxt ⟨#[d + 48]⟩ (Str.ofString "0123") = true := by
  rcases lt4 h with rfl | rfl | rfl | rfl <;> decide +kernel
theorem cross_num {t b : Int} (hb : b ≠ 0) : (Rat.divInt t b).num * b = t * (Rat.divInt t b).den := by
  have h : Rat.divInt (Rat.divInt t b).num (Rat.divInt t b).den = Rat.divInt t b := Rat.num_divInt_den _
  exact (Rat.divInt_eq_divInt_iff (den_ne _) hb).mp h
theorem low_in {t b : Int} (hb : 0 < b) (h0 : 0 ≤ t) (h1 : t < 64 * b) : 0 ≤ (Rat.divInt t b).num ∧ (Rat.divInt t b).num < 64 * (Rat.divInt t b).den := by
  have e := cross_num (t := t) (b := b) (by omega)
  have hd := den_pos (Rat.divInt t b)
  generalize (Rat.divInt t b).num = n at *
  generalize ((Rat.divInt t b).den : Int) = d at *
  have e2 : 0 ≤ t * d := Int.mul_nonneg h0 (by omega)
  have e3 : t * d < 64 * b * d := Int.mul_lt_mul_of_pos_right h1 hd
  constructor
  · apply Decidable.byContradiction
    intro h
    have : n * b < 0 := Int.mul_neg_of_neg_of_pos (by omega) hb
    omega
  · apply Decidable.byContradiction
    intro h
    have h2 : 64 * d * b ≤ n * b := Int.mul_le_mul_of_nonneg_right (by omega) (by omega)
    have h3 : 64 * d * b = 64 * b * d := by grind
    omega
/-! ### a code out of column and row -/
def dgN (c r b : Nat) : Nat := 2 * (r / 2 ^ b % 2) + c / 2 ^ b % 2
def cdN (c r : Nat) : Nat → List Nat
  | 0 => []
  | d + 1 => dgN c r d :: cdN c r d
theorem dgN_lt (c r b : Nat) : dgN c r b < 4 := by unfold dgN; omega
theorem cdN_lt (c r : Nat) : ∀ (n : Nat), ∀ d ∈ cdN c r n, d < 4
  | 0, d, h => by cases h
  | n + 1, d, h => by
    rcases List.mem_cons.mp h with rfl | h
    · exact dgN_lt c r n
    · exact cdN_lt c r n d h
theorem cdN_len (c r : Nat) : ∀ n : Nat, (cdN c r n).length = n
  | 0 => rfl
  | n + 1 => by show (cdN c r n).length + 1 = _; rw [cdN_len c r n]
theorem band1 (n : Nat) : Builtin.bitAnd (n : Int) 1 = ((n % 2 : Nat) : Int) := by
  show Int.ofNat (n &&& 1) = _
  rw [Nat.and_one_is_mod]
  rfl
theorem shr_nat (n b : Nat) : ((n : Nat) : Int) / 2 ^ b = ((n / 2 ^ b : Nat) : Int) := by simp
theorem at_fig {d : Nat} (h : d < 4) : atI (Str.ofString "0123").cps.toList (d : Int) = some (d + 48) := by
  rcases lt4 h with rfl | rfl | rfl | rfl <;> decide +kernel
theorem allS_fg : ∀ ds : List Nat, allS (ds.map fg) = some (ds.map fun d => (⟨#[d + 48]⟩ : Str))
  | [] => rfl
  | d :: ds => by
    show (allS (ds.map fg)).map _ = _
    rw [allS_fg ds]
    rfl
theorem put_comm {S : Sto} {a b : Addr} {m n : Mo} (h : a ≠ b) : put (put S a m) b n = put (put S b n) a m := by
  funext c
  simp only [put]
  split
  · rename_i e; subst e; rw [if_neg (fun z => h z.symm)]
  · rfl
end PL

/-! The pen of a law, and what is kept beside it. -/
namespace PL
open PySem PySem.Spec PyProof.Rows L2
/-- the pen at l is a good one, all else of S is in S2 -/
structure Pk (G : Mo → Prop) (S : Sto) (l : Addr) (S2 : Sto) : Prop where
  pen : ∃ m, S2 l = some m ∧ G m
  has : ∀ b o, b ≠ l → S b = some o → S2 b = some o
section
variable {G : Mo → Prop} {S S2 : Sto} {l a : Addr}
theorem Pk.refl {m : Mo} (h : S l = some m) (g : G m) : Pk G S l S := ⟨⟨m, h, g⟩, fun _ _ _ h => h⟩
theorem Pk.of (h : ∃ m, S l = some m ∧ G m) : Pk G S l S := ⟨h, fun _ _ _ h => h⟩
theorem Pk.new {m : Mo} (g : G m) : Pk G S l (put S l m) := ⟨⟨m, put_same, g⟩, fun b o h e => by rw [put_ne h]; exact e⟩
theorem Pk.draw {m : Mo} (k : Pk G S l S2) (g : G m) : Pk G S l (put S2 l m) := ⟨⟨m, put_same, g⟩, fun b o h e => by rw [put_ne h]; exact k.has b o h e⟩
theorem Pk.ne (k : Pk G S l S2) (h : S2 a = none) : a ≠ l := fun e => by
  obtain ⟨m, e1, _⟩ := k.pen
  rw [← e, h] at e1; cases e1
theorem Pk.ne' (k : Pk G S l S2) (h : S2 a = none) : S a = none := by
  cases e : S a with
  | none => rfl
  | some o => rw [k.has a o (k.ne h) e] at h; cases h
theorem Pk.put {x : Mo} (k : Pk G S l S2) (h : S a = none) (hl : a ≠ l) : Pk G S l (put S2 a x) := ⟨by
  obtain ⟨m, e, g⟩ := k.pen
  exact ⟨m, by rw [put_ne hl.symm]; exact e, g⟩, fun b o hb e => by
    rw [put_ne (fun z => by rw [z, h] at e; cases e)]
    exact k.has b o hb e⟩
theorem Pk.alloc {x : Mo} (k : Pk G S l S2) (h : S2 a = none) : Pk G S l (PL.put S2 a x) := k.put (k.ne' h) (k.ne h)
theorem Pk.del (k : Pk G S l S2) (h : S a = none) (hl : a ≠ l) : Pk G S l (del S2 a) := ⟨by
  obtain ⟨m, e, g⟩ := k.pen
  exact ⟨m, by rw [del_ne hl.symm]; exact e, g⟩, fun b o hb e => by
    rw [del_ne (fun z => by rw [z, h] at e; cases e)]
    exact k.has b o hb e⟩
theorem Pk.upd {S3 : Sto} (k : Pk G S l S2) (h : ∀ b, b ≠ a → S3 b = S2 b) (ha : S a = none) (hl : a ≠ l) : Pk G S l S3 := ⟨by
  obtain ⟨m, e, g⟩ := k.pen
  exact ⟨m, by rw [h l hl.symm]; exact e, g⟩, fun b o hb e => by
    rw [h b (fun z => by rw [z, ha] at e; cases e)]
    exact k.has b o hb e⟩
theorem Pk.trans {S3 : Sto} (k : Pk G S l S2) (k' : Pk G S2 l S3) : Pk G S l S3 := ⟨k'.pen, fun b o h e => k'.has b o h (k.has b o h e)⟩
theorem Pk.sub (k : Pk G S l S2) : ∃ m, G m ∧ Sub (PL.put S l m) S2 := by
  obtain ⟨m, e, g⟩ := k.pen
  refine ⟨m, g, fun b o h => ?_⟩
  by_cases hb : b = l
  · subst hb; rw [put_same] at h; cases h; exact e
  · rw [put_ne hb] at h; exact k.has b o hb h
theorem Pk.out {Q : QV} {p : Pv} (k : Pk G S l S2) (q : ∀ m, G m → Q p (PL.put S l m)) : Out Q p S2 := by
  obtain ⟨m, g, s⟩ := k.sub
  exact Out.less s (q m g)
/-- .. a list of one's own is told whole -/
theorem Pk.frz {Q : QV} {xs : List Pv} (k : Pk G S l S2) (ha : S a = none) (hl : a ≠ l) (h : S2 a = some (.lst xs)) (q : ∀ m, G m → Q (.lst xs) (PL.put S l m)) : Out Q (.ref a) S2 := by
  obtain ⟨m, g, s⟩ := (k.del ha hl).sub
  exact Out.frz h s (q m g)
end
theorem Sub.refl' (S : Sto) : Sub S S := fun _ _ h => h
def qq (n : Int) (d : Nat) (h : d ≠ 0 := by decide) (c : n.natAbs.Coprime d := by decide) : Rat := ⟨n, d, h, c⟩
theorem fr_int' (i : Int) : fr (i : Rat) = .tup [.int i, .int 1] := rfl
theorem eqv_nil (ds : List PyData) : PyData.eqv (.list ds) (.list []) = ds.isEmpty := by
  cases ds <;> rfl
theorem Sh.str {n d : Nat} {x : Str} (h : x.length ≤ n) (hx : ∀ c ∈ x.cps.toList, c < 16 ^ 8) : Sh (10 * n + 2) d (.str x) :=
  ⟨rfl, rfl, Nat.le_trans (PySem.StrLaws.reprText_len x hx) (by omega), Nat.zero_le _⟩
theorem Sh.cd {n d : Nat} {ds : List Nat} (h : ds.length ≤ n) (hd : ∀ z ∈ ds, z < 4) : Sh (10 * n + 2) d (.str (cdS ds)) :=
  Sh.str (by rw [cd_len]; exact h) fun c hc => by
    have : c ∈ ds.map (· + 48) := by simpa [cdS] using hc
    obtain ⟨z, hz, rfl⟩ := List.mem_map.mp this
    have := hd z hz
    show z + 48 < _
    omega
/-- texts: no sign between -/
theorem join_cd : ∀ ds : List Nat, Txt.join (Str.ofString "") (ds.map fun d => (⟨#[d + 48]⟩ : Str)) = cdS ds := by
  intro ds
  have e0 : Str.ofString "" = ⟨([] : List Nat).toArray⟩ := rfl
  rw [TL.join_eq]
  have main : ∀ (ds : List Nat), Str.join (Str.ofString "") (ds.map fun d => (⟨#[d + 48]⟩ : Str)) = cdS ds := by
    intro ds
    induction ds with
    | nil => rfl
    | cons d ds ih =>
      cases ds with
      | nil => rfl
      | cons d2 ds =>
        show ((⟨#[d + 48]⟩ : Str) ++ Str.ofString "") ++ Str.join (Str.ofString "") ((d2 :: ds).map fun d => (⟨#[d + 48]⟩ : Str)) = _
        rw [ih]
        exact cd_app [d] (d2 :: ds)
  exact main ds
end PL

/-! The land and its tiles: plain. -/
namespace PL
open PySem PySem.Spec PyProof.Rows L2
def inLand (p : Rat × Rat) : Prop := (0 ≤ p.1.num ∧ p.1.num < 64 * p.1.den) ∧ 0 ≤ p.2.num ∧ p.2.num < 64 * p.2.den
def inL (q : Rat) : Prop := 0 ≤ q.num ∧ q.num < 64 * q.den
def colN (q : Rat) (d : Nat) : Nat := (q.num * 2 ^ d / (64 * q.den)).toNat
theorem div_nat {q : Rat} {n : Nat} (h : 0 ≤ q.num) : ((colN q n : Nat) : Int) = q.num * 2 ^ n / (64 * q.den) := by
  unfold colN
  have h1 : 0 ≤ q.num * 2 ^ n := Int.mul_nonneg h (Int.le_of_lt (Int.pow_pos (by decide)))
  have h2 : 0 ≤ q.num * 2 ^ n / (64 * q.den) := Int.ediv_nonneg h1 (by omega)
  omega
theorem lt_div {q : Rat} {c : Int} {n : Nat} : q < Rat.divInt (64 * c) (2 ^ n) ↔ q.num * 2 ^ n < 64 * c * q.den := by
  have hp : (0 : Int) < 2 ^ n := Int.pow_pos (by decide)
  have hd := den_pos q
  have e : q = Rat.divInt q.num q.den := (Rat.num_divInt_den q).symm
  have hx := cross_num (t := 64 * c) (b := 2 ^ n) (by omega)
  have hy := den_pos (Rat.divInt (64 * c) (2 ^ n))
  rw [Rat.lt_iff]
  generalize (Rat.divInt (64 * c) (2 ^ n)).num = x at *
  generalize ((Rat.divInt (64 * c) (2 ^ n)).den : Int) = y at *
  generalize (2 : Int) ^ n = b at *
  generalize (q.den : Int) = d at *
  generalize q.num = t at *
  constructor
  · intro h
    have h1 : t * y * b < x * d * b := Int.mul_lt_mul_of_pos_right h hp
    have h2 : t * b * y < 64 * c * d * y := by
      have : x * d * b = 64 * c * d * y := by grind
      have : t * y * b = t * b * y := by grind
      omega
    exact Int.lt_of_mul_lt_mul_right h2 (by omega)
  · intro h
    have h1 : t * b * y < 64 * c * d * y := Int.mul_lt_mul_of_pos_right h hy
    have h2 : t * y * b < x * d * b := by
      have : x * d * b = 64 * c * d * y := by grind
      have : t * y * b = t * b * y := by grind
      omega
    exact Int.lt_of_mul_lt_mul_right h2 (by omega)
theorem side_add (c : Int) (n : Nat) : Rat.divInt (64 * c) (2 ^ n) + Rat.divInt 64 (2 ^ n) = Rat.divInt (64 * (c + 1)) (2 ^ n) := by
  rw [divInt_add', Int.mul_add, Int.mul_one]
/-- the column that has a number -/
theorem col_iff {q : Rat} (h : 0 ≤ q.num) (n c : Nat) : (¬ q < Rat.divInt (64 * (c : Int)) (2 ^ n) ∧ q < Rat.divInt (64 * (c : Int)) (2 ^ n) + Rat.divInt 64 (2 ^ n)) ↔ colN q n = c := by
  rw [side_add, lt_div, lt_div]
  have hd := den_pos q
  have e := div_nat (n := n) h
  generalize q.num * 2 ^ n = t at *
  have hb : (0 : Int) < 64 * q.den := by omega
  constructor
  · rintro ⟨h1, h2⟩
    have h3 : (c : Int) * (64 * q.den) ≤ t := by
      have : 64 * (c : Int) * q.den = (c : Int) * (64 * q.den) := by grind
      omega
    have h4 : t < ((c : Int) + 1) * (64 * q.den) := by
      have : 64 * ((c : Int) + 1) * q.den = ((c : Int) + 1) * (64 * q.den) := by grind
      omega
    have h5 := (Int.le_ediv_iff_mul_le hb).mpr h3
    have h6 := (Int.ediv_lt_iff_lt_mul hb).mpr h4
    omega
  · intro hc
    subst hc
    have h5 : ((colN q n : Nat) : Int) ≤ t / (64 * q.den) := by omega
    have h6 : t / (64 * q.den) < (colN q n : Nat) + 1 := by omega
    have h3 := (Int.le_ediv_iff_mul_le hb).mp h5
    have h4 := (Int.ediv_lt_iff_lt_mul hb).mp h6
    have e1 : 64 * ((colN q n : Nat) : Int) * q.den = ((colN q n : Nat) : Int) * (64 * q.den) := by grind
    have e2 : 64 * (((colN q n : Nat) : Int) + 1) * q.den = (((colN q n : Nat) : Int) + 1) * (64 * q.den) := by grind
    omega
theorem cdN_snoc (c r : Nat) : ∀ n : Nat, cdN c r (n + 1) = cdN (c / 2) (r / 2) n ++ [2 * (r % 2) + c % 2]
  | 0 => by
    show [dgN c r 0] = [2 * (r % 2) + c % 2]
    unfold dgN
    simp
  | n + 1 => by
    show dgN c r (n + 1) :: cdN c r (n + 1) = dgN (c / 2) (r / 2) n :: cdN (c / 2) (r / 2) n ++ _
    rw [cdN_snoc c r n]
    have : dgN c r (n + 1) = dgN (c / 2) (r / 2) n := by
      unfold dgN
      rw [Nat.div_div_eq_div_mul, Nat.div_div_eq_div_mul, Nat.pow_succ, Nat.mul_comm (2 ^ n) 2]
    rw [this]
    rfl
theorem colN_half {q : Rat} (h : 0 ≤ q.num) (n : Nat) : colN q (n + 1) / 2 = colN q n := by
  have e1 := div_nat (n := n) h
  have e2 := div_nat (n := n + 1) h
  have hd := den_pos q
  have e3 : q.num * 2 ^ (n + 1) / (64 * q.den) / 2 = q.num * 2 ^ n / (64 * q.den) := by
    rw [Int.pow_succ, ← Int.mul_assoc, Int.ediv_ediv_of_nonneg (by omega), Int.mul_ediv_mul_of_pos_left _ _ (by decide)]
  omega
theorem spN_cdN (c r : Nat) : ∀ n : Nat, c < 2 ^ n → r < 2 ^ n → spN (cdN c r n) = (c, r) := by
  intro n
  induction n generalizing c r with
  | zero => intro h1 h2; rw [show c = 0 by omega, show r = 0 by omega]; rfl
  | succ n ih =>
    intro h1 h2
    rw [Nat.pow_succ] at h1 h2
    rw [cdN_snoc, spN_snoc, ih (c / 2) (r / 2) (by omega) (by omega)]
    show (2 * (c / 2) + _, 2 * (r / 2) + _) = _
    congr 1 <;> omega
theorem colN_lt {q : Rat} (h : inL q) (n : Nat) : colN q n < 2 ^ n := by
  have e := div_nat (n := n) h.1
  have hd := den_pos q
  have hp : (0 : Int) < 2 ^ n := Int.pow_pos (by decide)
  have h1 : q.num * 2 ^ n < 2 ^ n * (64 * q.den) := by
    have := Int.mul_lt_mul_of_pos_right h.2 hp
    rw [Int.mul_comm (2 ^ n)]
    exact this
  have h2 := (Int.ediv_lt_iff_lt_mul (show (0 : Int) < 64 * q.den by omega)).mpr h1
  have h3 : ((2 ^ n : Nat) : Int) = 2 ^ n := by simp
  omega
abbrev tlN (p : Rat × Rat) (n : Nat) : List Nat := cdN (colN p.1 n) (colN p.2 n) n
theorem tlN_snoc {p : Rat × Rat} (h : inLand p) (n : Nat) : tlN p (n + 1) = tlN p n ++ [2 * (colN p.2 (n + 1) % 2) + colN p.1 (n + 1) % 2] := by
  unfold tlN
  rw [cdN_snoc, colN_half h.1.1, colN_half h.2.1]
theorem memT (a b c d : Bool) : memD (.bl true) [.bl a, .bl b, .bl c, .bl d] = (a || b || c || d) := by
  cases a <;> cases b <;> cases c <;> cases d <;> rfl
/-- the box of a code, and one figure more, has the point just if the figure is the point's own -/
theorem box_has {p : Rat × Rat} (h : inLand p) (n x : Nat) (hx : x < 4) :
    (!(decide (p.1 < (boxR (tlN p n ++ [x])).1) || decide (p.2 < (boxR (tlN p n ++ [x])).2.1) || !decide (p.1 < (boxR (tlN p n ++ [x])).1 + (boxR (tlN p n ++ [x])).2.2) || !decide (p.2 < (boxR (tlN p n ++ [x])).2.1 + (boxR (tlN p n ++ [x])).2.2))) = decide (x = 2 * (colN p.2 (n + 1) % 2) + colN p.1 (n + 1) % 2) := by
  have hl : (tlN p n ++ [x]).length = n + 1 := by rw [List.length_append, cdN_len]; rfl
  have hs : spN (tlN p n ++ [x]) = (2 * colN p.1 n + x % 2, 2 * colN p.2 n + x / 2) := by
    rw [spN_snoc, spN_cdN _ _ _ (colN_lt h.1 n) (colN_lt h.2 n)]
  have e1 : (boxR (tlN p n ++ [x])).1 = Rat.divInt (64 * ((2 * colN p.1 n + x % 2 : Nat) : Int)) (2 ^ (n + 1)) := by unfold boxR; rw [hs, hl]
  have e2 : (boxR (tlN p n ++ [x])).2.1 = Rat.divInt (64 * ((2 * colN p.2 n + x / 2 : Nat) : Int)) (2 ^ (n + 1)) := by unfold boxR; rw [hs, hl]
  have e3 : (boxR (tlN p n ++ [x])).2.2 = Rat.divInt 64 (2 ^ (n + 1)) := by unfold boxR; rw [hl]
  rw [e1, e2, e3]
  have c1 := col_iff h.1.1 (n + 1) (2 * colN p.1 n + x % 2)
  have c2 := col_iff h.2.1 (n + 1) (2 * colN p.2 n + x / 2)
  have d1 := colN_half h.1.1 n
  have d2 := colN_half h.2.1 n
  rw [Bool.eq_iff_iff]
  simp only [Bool.not_eq_true', Bool.or_eq_false_iff, decide_eq_false_iff_not, Bool.not_eq_false', decide_eq_true_eq]
  constructor
  · rintro ⟨⟨⟨a, b⟩, c⟩, d⟩
    have f1 := c1.mp ⟨a, c⟩
    have f2 := c2.mp ⟨b, d⟩
    omega
  · intro hx'
    have f1 := c1.mpr (by omega)
    have f2 := c2.mpr (by omega)
    exact ⟨⟨⟨f1.1, f2.1⟩, f1.2⟩, f2.2⟩
theorem inL_iff (q : Rat) : inL q ↔ 0 ≤ q ∧ q < 64 := by
  unfold inL
  rw [Rat.le_iff, Rat.lt_iff]
  show _ ↔ (0 : Rat).num * q.den ≤ q.num * ((0 : Rat).den : Int) ∧ q.num * ((64 : Rat).den : Int) < (64 : Rat).num * q.den
  rw [show ((64 : Rat).den : Int) = 1 from rfl, show (64 : Rat).num = 64 from rfl, show ((0 : Rat).den : Int) = 1 from rfl, show (0 : Rat).num = 0 from rfl]
  omega
theorem box_in (ds : List Nat) (h : ∀ d ∈ ds, d < 4) : (0 ≤ (boxR ds).1 ∧ (boxR ds).1 + (boxR ds).2.2 ≤ 64) ∧ (0 ≤ (boxR ds).2.1 ∧ (boxR ds).2.1 + (boxR ds).2.2 ≤ 64) ∧ 0 < (boxR ds).2.2 := by
  have hl := spN_lt ds.length ds rfl h
  have lo : ∀ (c : Nat), 0 ≤ Rat.divInt (64 * (c : Int)) (2 ^ ds.length) := by
    intro c
    rw [← Rat.not_lt]
    intro z
    have hp : (0 : Int) < 2 ^ ds.length := Int.pow_pos (by decide)
    have hx := cross_num (t := 64 * (c : Int)) (b := 2 ^ ds.length) (by omega)
    have hn : (Rat.divInt (64 * (c : Int)) (2 ^ ds.length)).num < 0 := (num_neg_iff _).mp z
    have hd := den_pos (Rat.divInt (64 * (c : Int)) (2 ^ ds.length))
    have h1 : (Rat.divInt (64 * (c : Int)) (2 ^ ds.length)).num * 2 ^ ds.length < 0 := Int.mul_neg_of_neg_of_pos hn hp
    have h2 : 0 ≤ 64 * (c : Int) * (Rat.divInt (64 * (c : Int)) (2 ^ ds.length)).den := Int.mul_nonneg (by omega) (by omega)
    omega
  have hi : ∀ (c : Nat), c < 2 ^ ds.length → Rat.divInt (64 * (c : Int)) (2 ^ ds.length) + Rat.divInt 64 (2 ^ ds.length) ≤ 64 := by
    intro c hc
    rw [side_add, ← Rat.not_lt, lt_div]
    show ¬ (64 : Int) * 2 ^ ds.length < 64 * ((c : Int) + 1) * 1
    have : ((2 ^ ds.length : Nat) : Int) = 2 ^ ds.length := by simp
    omega
  have ps : 0 < Rat.divInt 64 (2 ^ ds.length) := by
    have : (0 : Rat) < Rat.divInt (64 * 1) (2 ^ ds.length) := by
      rw [lt_div]
      show (0 : Int) * 2 ^ ds.length < 64 * 1 * 1
      omega
    exact this
  exact ⟨⟨lo _, hi _ hl.1⟩, ⟨lo _, hi _ hl.2⟩, ps⟩
end PL

/-! Things that are looked at: words, rows, codes; texts in their order. -/
namespace PL
open PySem PySem.Spec PyProof.Rows L2
def asc (x : Str) : Bool := x.cps.toList.all fun c => decide (c < 128)
mutual
/-- data of no great size, nothing of the store in it (as far as tuples go) -/
def smP : Pv → Bool
  | .non => true | .bl _ => true | .int _ => true | .str x => decide (x.length ≤ 1000) && asc x | .tup xs => decide (xs.length ≤ 1000) && smPs xs | .lst _ => true | .dct _ _ => true | .scr _ => false | .ref _ => false | .ty _ => false
def smPs : List Pv → Bool
  | [] => true
  | x :: xs => smP x && smPs xs
end
mutual
theorem smP_ty : ∀ p : Pv, smP p = true → tyD p = true
  | .non, _ => rfl | .bl _, _ => rfl | .int _, _ => rfl | .str _, _ => rfl | .lst _, _ => rfl | .dct _ _, _ => rfl
  | .tup xs, h => by
    have h : decide (xs.length ≤ 1000) = true ∧ smPs xs = true := by simpa [smP] using h
    exact smPs_ty xs h.2
  | .scr _, h => by cases h
  | .ref _, h => by cases h
  | .ty _, h => by cases h
theorem smPs_ty : ∀ ps : List Pv, smPs ps = true → tyDs ps = true
  | [], _ => rfl
  | p :: ps, h => by
    have h : smP p = true ∧ smPs ps = true := by simpa [smPs] using h
    show (tyD p && tyDs ps) = true
    rw [smP_ty p h.1, smPs_ty ps h.2]; rfl
end
theorem smPs_mem : ∀ {ps : List Pv}, smPs ps = true → ∀ p ∈ ps, smP p = true
  | [], _, _, h => by cases h
  | q :: ps, h, p, hp => by
    have h : smP q = true ∧ smPs ps = true := by simpa [smPs] using h
    rcases List.mem_cons.mp hp with rfl | hp
    · exact h.1
    · exact smPs_mem h.2 p hp
theorem smP_tup {xs : List Pv} (h : smP (.tup xs) = true) : xs.length ≤ 1000 ∧ smPs xs = true := by simpa [smP] using h
theorem smP_str {x : Str} (h : smP (.str x) = true) : x.length ≤ 1000 := by
  have : decide (x.length ≤ 1000) = true ∧ asc x = true := by simpa [smP] using h
  exact of_decide_eq_true this.1
theorem smP_asc {x : Str} (h : smP (.str x) = true) : asc x = true := by
  have : decide (x.length ≤ 1000) = true ∧ asc x = true := by simpa [smP] using h
  exact this.2
/-! ### signs in texts -/
theorem in_one (c : Nat) (z : Str) : inTxt ⟨#[c]⟩ z = decide (c ∈ z.cps.toList) := StrLaws.found_one z c
def smallC (c : Nat) : Bool := decide (97 ≤ c) && decide (c ≤ 122)
def figC (c : Nat) : Bool := decide (48 ≤ c) && decide (c ≤ 51)
theorem in_small (c : Nat) : inTxt ⟨#[c]⟩ (Str.ofString "abcdefghijklmnopqrstuvwxyz") = smallC c := by
  rw [in_one, show (Str.ofString "abcdefghijklmnopqrstuvwxyz").cps.toList = [97, 98, 99, 100, 101, 102, 103, 104, 105, 106, 107, 108, 109, 110, 111, 112, 113, 114, 115, 116, 117, 118, 119, 120, 121, 122] from rfl]
  unfold smallC
  rw [Bool.eq_iff_iff]
  simp only [List.mem_cons, List.not_mem_nil, or_false, decide_eq_true_eq, Bool.and_eq_true]
  omega
theorem in_fig (c : Nat) : inTxt ⟨#[c]⟩ (Str.ofString "0123") = figC c := by
  rw [in_one, show (Str.ofString "0123").cps.toList = [48, 49, 50, 51] from rfl]
  unfold figC
  rw [Bool.eq_iff_iff]
  simp only [List.mem_cons, List.not_mem_nil, or_false, decide_eq_true_eq, Bool.and_eq_true]
  omega
theorem len_str {S : Sto} {x : Str} (h : x.length ≤ 1000) : lenP S (.str x) = some x.length := by
  show (if x.length ≤ sizeLine then some x.length else none) = _
  rw [if_pos (Nat.le_trans h (by decide))]
theorem chars_map (x : Str) : chars x = x.cps.toList.map fun c => .str ⟨#[c]⟩ := rfl
theorem chars_len (x : Str) : x.cps.toList.length = x.length := rfl
theorem cut_tail (xs : List Pv) : cutP xs (some 1) none = xs.tail := by
  unfold cutP
  cases xs with
  | nil => rfl
  | cons x xs =>
    have e1 : HT.sIx (x :: xs).length 0 (some 1) = 1 := by
      show _ = _
      simp [HT.sIx]
    have e2 : HT.sIx (x :: xs).length (x :: xs).length none = (x :: xs).length := rfl
    rw [e1, e2, List.drop_one]
    exact List.take_of_length_le (by simp)
theorem zipP_zip : ∀ xs ys : List Pv, zipP xs ys = (xs.zip ys).map fun p => .tup [p.1, p.2]
  | [], _ => rfl
  | _ :: _, [] => rfl
  | x :: xs, y :: ys => by
    show Pv.tup [x, y] :: zipP xs ys = _
    rw [zipP_zip xs ys]
    rfl
/-! ### words, days, codes -/
def wordS (x : Str) : Bool := (decide (1 ≤ x.length) && decide (x.length ≤ 8)) && x.cps.toList.all smallC
def wordP : Pv → Bool
  | .str x => wordS x
  | _ => false
def dayP : Pv → Bool
  | .int i => decide (0 ≤ i)
  | _ => false
def codeS (x : Str) : Bool := decide (x.length ≤ 9) && x.cps.toList.all figC
def codeP : Pv → Bool
  | .str x => codeS x
  | _ => false
def tupN (n : Nat) : Pv → Bool
  | .tup ys => decide (ys.length = n)
  | _ => false
def rowP (a b : Nat) (n : Nat) : Pv → Bool
  | .tup xs => (decide (a ≤ xs.length) && decide (xs.length ≤ b)) && xs.all (tupN n)
  | _ => false
/-- x < y, of texts and whole numbers -/
def ltP : Pv → Pv → Bool
  | .int i, .int j => decide (i < j)
  | .str a, .str b => strLt a b
  | _, _ => false
def kindS (xs : List Pv) : Prop := (∃ ss : List Str, xs = ss.map .str) ∨ ∃ is : List Int, xs = is.map .int
def risP (xs : List Pv) : Bool := (xs.zip xs.tail).all fun p => ltP p.1 p.2
/-- y begins with x -/
abbrev preS (x y : Str) : Bool := Txt.startswith y x
theorem preS_iff (x y : Str) : preS x y = true ↔ x.cps.toList <+: y.cps.toList := by
  unfold preS Txt.startswith
  rw [StrLaws.subAt_eq, List.drop_zero, Bool.and_eq_true, decide_eq_true_eq, beq_iff_eq]
  show 0 + x.cps.toList.length ≤ y.cps.toList.length ∧ y.cps.toList.take x.cps.toList.length = x.cps.toList ↔ _
  rw [List.prefix_iff_eq_take]
  constructor
  · rintro ⟨_, h⟩
    exact h.symm
  · intro h
    refine ⟨?_, h.symm⟩
    have := congrArg List.length h
    rw [List.length_take] at this
    omega
/-! ### texts in their order -/
theorem lex_pre : ∀ {p t y : List Nat}, p < y → ¬ p ++ t < y → p <+: y
  | [], _, _, _, _ => List.nil_prefix
  | a :: p, t, [], h, _ => absurd h (List.not_lt_nil _)
  | a :: p, t, b :: y, h, h2 => by
    rw [List.cons_lt_cons_iff] at h
    rw [List.cons_append, List.cons_lt_cons_iff] at h2
    rcases h with h | ⟨rfl, h⟩
    · exact absurd (.inl h) h2
    · have := lex_pre h fun z => h2 (.inr ⟨rfl, z⟩)
      exact List.cons_prefix_cons.mpr ⟨rfl, this⟩
theorem strLt_iff (a b : Str) : strLt a b = true ↔ a.cps.toList < b.cps.toList := decide_eq_true_iff
theorem strLt_trans {a b c : Str} (h : strLt a b = true) (h' : strLt b c = true) : strLt a c = true := by
  rw [strLt_iff] at *
  exact List.lt_trans h h'
theorem strLt_irr (a : Str) : strLt a a = false := by
  cases h : strLt a a with
  | false => rfl
  | true => exact absurd ((strLt_iff a a).mp h) (List.lt_irrefl _)
theorem str_ext {a b : Str} (h : a.cps.toList = b.cps.toList) : a = b := by
  cases a; cases b
  congr 1
  exact Array.toList_inj.mp h
/-- rising, and none the begin of a later one -/
def apart (a b : Str) : Bool := strLt a b && !preS a b
theorem apart_trans {a b c : Str} (h : apart a b = true) (h' : apart b c = true) : apart a c = true := by
  unfold apart at *
  simp only [Bool.and_eq_true, Bool.not_eq_true'] at *
  refine ⟨strLt_trans h.1 h'.1, ?_⟩
  cases q : preS a c with
  | false => rfl
  | true =>
    have h1 := (preS_iff a c).mp q
    obtain ⟨t, ht⟩ := h1
    have h2 := (strLt_iff a b).mp h.1
    have h3 := (strLt_iff b c).mp h'.1
    have : a.cps.toList <+: b.cps.toList := lex_pre (t := t) h2 (by
      rw [ht]
      exact fun z => List.lt_irrefl _ (List.lt_trans z h3))
    have := (preS_iff a b).mpr this
    rw [this] at h
    cases h.2
theorem adj_pw {α : Type} {r : α → α → Bool} (tr : ∀ a b c, r a b = true → r b c = true → r a c = true) : ∀ xs : List α, (xs.zip xs.tail).all (fun p => r p.1 p.2) = true ↔ xs.Pairwise fun a b => r a b = true
  | [] => by simp
  | [x] => by simp
  | x :: y :: zs => by
    have ih := adj_pw tr (y :: zs)
    show ((r x y && ((y :: zs).zip (y :: zs).tail).all fun p => r p.1 p.2) = true) ↔ _
    rw [Bool.and_eq_true, ih, List.pairwise_cons (a := x)]
    constructor
    · rintro ⟨h1, h2⟩
      refine ⟨fun z hz => ?_, h2⟩
      rcases List.mem_cons.mp hz with rfl | hz
      · exact h1
      · exact tr _ _ _ h1 ((List.pairwise_cons.mp h2).1 z hz)
    · rintro ⟨h1, h2⟩
      exact ⟨h1 y List.mem_cons_self, h2⟩
/-- the texts, sorted -/
def leS (a b : Str) : Bool := decide (a.cps.toList ≤ b.cps.toList)
def sortS (xs : List Str) : List Str := xs.mergeSort leS
theorem sortP_str (xs : List Str) : sortP (xs.map .str) = (sortS xs).map .str := by
  unfold sortP sortS
  rw [List.map_mergeSort (s := PySem.W.dataLe false toD) (f := Pv.str)]
  intro a _ b _
  have := congrFun (congrFun (PySem.W.dataLe_str (k := fun s : Str => s)) a) b
  exact this.symm
theorem leS_total (a b : Str) : (leS a b || leS b a) = true := by
  unfold leS
  rw [Bool.or_eq_true, decide_eq_true_eq, decide_eq_true_eq]
  exact List.le_total _ _
theorem leS_trans (a b c : Str) (h : leS a b = true) (h' : leS b c = true) : leS a c = true := by
  unfold leS at *
  rw [decide_eq_true_eq] at *
  exact List.le_trans h h'
theorem sortS_pw (xs : List Str) : (sortS xs).Pairwise fun a b => leS a b = true := List.pairwise_mergeSort leS_trans leS_total xs
theorem sortS_eq {xs : List Str} : sortS xs = xs ↔ xs.Pairwise fun a b => leS a b = true :=
  ⟨fun h => by rw [← h]; exact sortS_pw xs, fun h => List.mergeSort_of_pairwise h⟩
theorem leS_lt {a b : Str} (h : leS a b = true) (hn : a ≠ b) : strLt a b = true := by
  unfold leS at h
  rw [decide_eq_true_eq] at h
  rw [strLt_iff]
  apply Decidable.byContradiction
  intro z
  exact hn (str_ext (List.le_antisymm h (List.not_lt.mp z)))
theorem lt_leS {a b : Str} (h : strLt a b = true) : leS a b = true := by
  unfold leS
  rw [decide_eq_true_eq]
  rw [strLt_iff] at h
  exact List.le_of_lt h
/-- the same, looked at one by one -/
theorem apart_iff (xs : List Str) : (xs.Pairwise fun a b => apart a b = true) ↔ (xs.Pairwise fun a b => leS a b = true) ∧ ∀ c ∈ xs, xs.filter (preS c) = [c] := by
  have pr : ∀ a, preS a a = true := fun a => (preS_iff a a).mpr (List.prefix_refl _)
  constructor
  · intro h
    refine ⟨h.imp fun {a b} z => lt_leS (by unfold apart at z; exact (Bool.and_eq_true_iff.mp z).1), ?_⟩
    clear pr
    induction xs with
    | nil => intro c hc; cases hc
    | cons x xs ih =>
      intro c hc
      obtain ⟨h1, h2⟩ := List.pairwise_cons.mp h
      have pr : ∀ a, preS a a = true := fun a => (preS_iff a a).mpr (List.prefix_refl _)
      rcases List.mem_cons.mp hc with rfl | hc
      · rw [List.filter_cons_of_pos (pr c), List.filter_eq_nil_iff.mpr]
        intro b hb z
        have := h1 b hb
        unfold apart at this
        rw [z] at this
        simp at this
      · have hx : ¬ preS c x = true := by
          intro z
          have h3 := h1 c hc
          unfold apart at h3
          have h4 := (strLt_iff x c).mp (Bool.and_eq_true_iff.mp h3).1
          obtain ⟨t, ht⟩ := (preS_iff c x).mp z
          rw [← ht] at h4
          have : ¬ c.cps.toList ++ t < c.cps.toList := by
            clear h4 ht
            generalize c.cps.toList = l
            induction l with
            | nil => exact List.not_lt_nil _
            | cons a l ih =>
              rw [List.cons_append, List.cons_lt_cons_iff]
              rintro (z | ⟨_, z⟩)
              · omega
              · exact ih z
          exact this h4
        rw [List.filter_cons_of_neg hx]
        exact ih h2 c hc
  · rintro ⟨h1, h2⟩
    induction xs with
    | nil => exact .nil
    | cons x xs ih =>
      obtain ⟨h3, h4⟩ := List.pairwise_cons.mp h1
      have hx := h2 x List.mem_cons_self
      rw [List.filter_cons_of_pos (pr x)] at hx
      have hn : xs.filter (preS x) = [] := by simpa using hx
      have hn2 : ∀ b ∈ xs, ¬ preS x b = true := List.filter_eq_nil_iff.mp hn
      refine List.pairwise_cons.mpr ⟨fun b hb => ?_, ih h4 fun c hc => ?_⟩
      · unfold apart
        have := hn2 b hb
        rw [Bool.and_eq_true]
        refine ⟨leS_lt (h3 b hb) (fun e => this (by rw [e]; exact pr b)), ?_⟩
        simpa using this
      · have h5 := h2 c (List.mem_cons_of_mem _ hc)
        by_cases z : preS c x = true
        · rw [List.filter_cons_of_pos z] at h5
          have : x = c := (List.cons.inj h5).1
          subst this
          exact absurd (pr x) (hn2 x hc)
        · rw [List.filter_cons_of_neg z] at h5
          exact h5
/-! ### rows of codes -/
theorem allS_str : ∀ ss : List Str, allS (ss.map Pv.str) = some ss
  | [] => rfl
  | s :: ss => by
    show (allS (ss.map Pv.str)).map (s :: ·) = _
    rw [allS_str ss]; rfl
theorem allS_is : ∀ {xs : List Pv} {ss : List Str}, allS xs = some ss → xs = ss.map Pv.str
  | [], ss, h => by
    have : [] = ss := by simpa [allS] using h
    rw [← this]; rfl
  | .str x :: xs, ss, h => by
    simp only [allS, Option.map_eq_some_iff] at h
    obtain ⟨ts, e, rfl⟩ := h
    rw [allS_is e]; rfl
  | .non :: _, _, h => by simp [allS] at h
  | .bl _ :: _, _, h => by simp [allS] at h
  | .int _ :: _, _, h => by simp [allS] at h
  | .tup _ :: _, _, h => by simp [allS] at h
  | .lst _ :: _, _, h => by simp [allS] at h
  | .scr _ :: _, _, h => by simp [allS] at h
  | .dct _ _ :: _, _, h => by simp [allS] at h
  | .ref _ :: _, _, h => by simp [allS] at h
  | .ty _ :: _, _, h => by simp [allS] at h
def isStrP : Pv → Bool
  | .str _ => true
  | _ => false
theorem allS_none : ∀ {xs : List Pv}, allS xs = none ↔ xs.all isStrP = false
  | [] => by simp [allS]
  | .str x :: xs => by
    have ih := allS_none (xs := xs)
    simp only [allS, Option.map_eq_none_iff, List.all_cons, isStrP, Bool.true_and]
    exact ih
  | .non :: _ => by simp [allS, isStrP]
  | .bl _ :: _ => by simp [allS, isStrP]
  | .int _ :: _ => by simp [allS, isStrP]
  | .tup _ :: _ => by simp [allS, isStrP]
  | .lst _ :: _ => by simp [allS, isStrP]
  | .scr _ :: _ => by simp [allS, isStrP]
  | .dct _ _ :: _ => by simp [allS, isStrP]
  | .ref _ :: _ => by simp [allS, isStrP]
  | .ty _ :: _ => by simp [allS, isStrP]
def codeN (n : Nat) (x : Str) : Bool := codeS x && decide (x.length ≤ n)
def codesS (n : Nat) (ss : List Str) : Bool := ss.all (codeN n) && (ss.zip ss.tail).all fun p => apart p.1 p.2
def codesP (n : Nat) : Pv → Bool
  | .tup xs => match allS xs with
    | some ss => codesS n ss
    | none => false
  | _ => false
def codeNP (n : Nat) : Pv → Bool
  | .str x => codeN n x
  | _ => false
theorem bl_list {α : Type} {S : Sto} {f : α → Bool} {xs : List α} : (rdL S (.lst (xs.map fun x => Pv.bl (f x)))).bind allBl = some (xs.map f) := by
  show (some (xs.map fun x => Pv.bl (f x))).bind allBl = _
  rw [Option.bind_some, allBl_map]
theorem any_i {α : Type} {S : Sto} {Q : QV} {f : α → Bool} {xs : List α} (q : Q (.bl (xs.any f)) S) : oAny [.lst (xs.map fun x => .bl (f x))] S Q := by
  show match (some (xs.map fun x => Pv.bl (f x))).bind allBl with | some bs => Q (.bl (bs.any id)) S | none => False
  rw [Option.bind_some, allBl_map]
  show Q (.bl ((xs.map f).any id)) S
  rw [List.any_map]
  exact q
theorem all_j {α : Type} {S : Sto} {Q : QV} {f : α → Bool} {xs : List α} (q : Q (.bl (xs.all f)) S) : oAll [.lst (xs.map fun x => .bl (f x))] S Q := all_i (by rw [List.all_map]; exact q)
theorem risP_str (ss : List Str) : risP (ss.map .str) = (ss.zip ss.tail).all fun p => strLt p.1 p.2 := by
  unfold risP
  rw [← List.map_tail, List.zip_map, List.all_map]
  rfl
theorem adj_apart (ss : List Str) : (ss.zip ss.tail).all (fun p => apart p.1 p.2) = ((ss.zip ss.tail).all (fun p => strLt p.1 p.2) && !(ss.zip ss.tail).any fun p => preS p.1 p.2) := by
  unfold apart
  generalize ss.zip ss.tail = ps
  induction ps with
  | nil => rfl
  | cons p ps ih =>
    rw [List.all_cons, List.all_cons, List.any_cons, ih]
    cases strLt p.1 p.2 <;> cases preS p.1 p.2 <;> simp
end PL

/-! Things: their size, whether they can be shown and compared. -/
namespace PL
open PySem PySem.Spec PyProof.Rows L2
mutual
/-- fit to be shown: texts of plain signs, whole numbers of no great size, dicts empty -/
def fine : Pv → Bool
  | .non => true | .bl _ => true | .int i => decide (i.natAbs.log2 < 1900) | .str x => asc x | .tup xs => fines xs | .lst xs => fines xs | .dct ks vs => ks.isEmpty && vs.isEmpty | .scr _ => false | .ref _ => false | .ty _ => false
def fines : List Pv → Bool
  | [] => true
  | x :: xs => fine x && fines xs
end
mutual
/-- no less than the length of its text -/
def wt : Pv → Nat
  | .non => 5 | .bl _ => 5 | .int i => i.natAbs.log2 + 4 | .str x => 10 * x.length + 2 | .tup xs => wts xs + 3 | .lst xs => wts xs + 3 | .dct _ _ => 5 | .scr _ => 0 | .ref _ => 0 | .ty _ => 0
def wts : List Pv → Nat
  | [] => 0
  | x :: xs => wt x + 2 + wts xs
end
mutual
def dpP : Pv → Nat
  | .tup xs => dpPs xs + 1 | .lst xs => dpPs xs + 1 | .dct _ _ => 1 | .non => 0 | .bl _ => 0 | .int _ => 0 | .str _ => 0 | .scr _ => 0 | .ref _ => 0 | .ty _ => 0
def dpPs : List Pv → Nat
  | [] => 0
  | x :: xs => max (dpP x) (dpPs xs)
end
theorem asc_lt {x : Str} (h : asc x = true) : ∀ c ∈ x.cps.toList, c < 128 := fun c hc => of_decide_eq_true (List.all_eq_true.mp h c hc)
theorem int_shown (i : Int) (h : i.natAbs.log2 < 1900) : Sh (i.natAbs.log2 + 4) 0 (.int i) := by
  have h2 : i.natAbs < 2 ^ (i.natAbs.log2 + 1) := by
    by_cases h0 : i.natAbs = 0
    · rw [h0]; decide
    · exact Nat.lt_log2_self
  have := Sh.int (n := i.natAbs.log2 + 1) (d := 0) h2 (by omega)
  exact this.up (by omega) (Nat.le_refl _)
mutual
theorem shown_le : ∀ p : Pv, fine p = true → (toD p).showable = true ∧ (toD p).shown.length ≤ wt p ∧ (toD p).depth ≤ dpP p
  | .non, _ => ⟨rfl, by decide, Nat.le_refl _⟩
  | .bl b, _ => ⟨rfl, by cases b <;> decide, Nat.le_refl _⟩
  | .int i, h => by
    have h : i.natAbs.log2 < 1900 := of_decide_eq_true h
    have := int_shown i h
    exact ⟨this.2.1, this.2.2.1, Nat.le_refl _⟩
  | .str x, h => by
    have hx := Sh.str (d := 0) (Nat.le_refl x.length) fun c hc => Nat.lt_trans (asc_lt h c hc) (by decide)
    exact ⟨hx.2.1, hx.2.2.1, Nat.le_refl _⟩
  | .tup xs, h => by
    obtain ⟨h1, h2, h3⟩ := shownAll_le xs h
    exact ⟨h1, Nat.le_trans (tupText_le _) (Nat.add_le_add_right h2 3), Nat.succ_le_succ h3⟩
  | .lst xs, h => by
    obtain ⟨h1, h2, h3⟩ := shownAll_le xs h
    exact ⟨h1, Nat.le_trans (listText_le _) (Nat.add_le_add h2 (by decide)), Nat.succ_le_succ h3⟩
  | .dct ks vs, h => ⟨rfl, show (PyData.dict []).shown.length ≤ 5 by decide, show (PyData.dict []).depth ≤ 1 by decide⟩
  | .scr _, h => by cases h
  | .ref _, h => by cases h
  | .ty _, h => by cases h
theorem shownAll_le : ∀ ps : List Pv, fines ps = true → PyData.showableAll (toDs ps) = true ∧ piled (PyData.shownAll (toDs ps)) ≤ wts ps ∧ PyData.depthAll (toDs ps) ≤ dpPs ps
  | [], _ => ⟨rfl, Nat.le_refl _, Nat.le_refl _⟩
  | p :: ps, h => by
    have h : fine p = true ∧ fines ps = true := by simpa [fines] using h
    obtain ⟨a1, a2, a3⟩ := shown_le p h.1
    obtain ⟨b1, b2, b3⟩ := shownAll_le ps h.2
    refine ⟨?_, ?_, ?_⟩
    · show ((toD p).showable && PyData.showableAll (toDs ps)) = true
      rw [a1, b1]; rfl
    · show piled ((toD p).shown :: PyData.shownAll (toDs ps)) ≤ wt p + 2 + wts ps
      rw [piled_cons]
      omega
    · show max (toD p).depth (PyData.depthAll (toDs ps)) ≤ max (dpP p) (dpPs ps)
      omega
end
/-- a thing that a law hands in -/
structure Thing (n d : Nat) (p : Pv) : Prop where
  sm : smP p = true
  fn : fine p = true
  wt : wt p ≤ n
  dp : dpP p ≤ d
theorem Thing.up {n m d e : Nat} {p : Pv} (h : Thing n d p) (l : n ≤ m) (l' : d ≤ e) : Thing m e p := ⟨h.sm, h.fn, Nat.le_trans h.wt l, Nat.le_trans h.dp l'⟩
theorem Thing.ok {n d : Nat} {p : Pv} (h : Thing n d p) (de : (isD p || isE p) = true) (l : n ≤ 16000000) (l' : d ≤ 60) : okR p := by
  obtain ⟨h1, h2, h3⟩ := shown_le p h.fn
  exact ⟨de, h1, Nat.le_trans (Nat.le_trans h3 h.dp) l', Nat.le_trans (Nat.le_trans (Nat.le_trans h2 h.wt) l) (by decide)⟩
/-- several of them -/
structure Things (n d : Nat) (ps : List Pv) : Prop where
  sm : smPs ps = true
  fn : fines ps = true
  wt : wts ps ≤ n
  dp : dpPs ps ≤ d
theorem Things.nil {n d : Nat} : Things n d [] := ⟨rfl, rfl, Nat.zero_le _, Nat.zero_le _⟩
theorem Things.cons {n m d : Nat} {p : Pv} {ps : List Pv} (h : Thing n d p) (h' : Things m d ps) : Things (n + 2 + m) d (p :: ps) := by
  refine ⟨?_, ?_, ?_, ?_⟩
  · show (smP p && smPs ps) = true; rw [h.sm, h'.sm]; rfl
  · show (fine p && fines ps) = true; rw [h.fn, h'.fn]; rfl
  · show PL.wt p + 2 + wts ps ≤ _
    have := h.wt
    have := h'.wt
    omega
  · show max (dpP p) (dpPs ps) ≤ _
    have := h.dp
    have := h'.dp
    omega
theorem Things.uncons {n d : Nat} {p : Pv} {ps : List Pv} (h : Things n d (p :: ps)) : Thing n d p ∧ Things n d ps ∧ PL.wt p + 2 + wts ps ≤ n := by
  obtain ⟨h1, h2, h3, h4⟩ := h
  have h1 : smP p = true ∧ smPs ps = true := by simpa [smPs] using h1
  have h2 : fine p = true ∧ fines ps = true := by simpa [fines] using h2
  have h3 : PL.wt p + 2 + wts ps ≤ n := h3
  have h4 : max (dpP p) (dpPs ps) ≤ d := h4
  exact ⟨⟨h1.1, h2.1, by omega, by omega⟩, ⟨h1.2, h2.2, by omega, by omega⟩, h3⟩
theorem Things.up {n m d e : Nat} {ps : List Pv} (h : Things n d ps) (l : n ≤ m) (l' : d ≤ e) : Things m e ps := ⟨h.sm, h.fn, Nat.le_trans h.wt l, Nat.le_trans h.dp l'⟩
theorem Things.app {d : Nat} : ∀ {n m : Nat} {ps qs : List Pv}, Things n d ps → Things m d qs → Things (n + m) d (ps ++ qs)
  | n, m, [], qs, _, h => h.up (by omega) (Nat.le_refl _)
  | n, m, p :: ps, qs, h, h' => by
    obtain ⟨a, b, c⟩ := h.uncons
    have b' : Things (wts ps) d ps := ⟨b.sm, b.fn, Nat.le_refl _, b.dp⟩
    have a' : Thing (PL.wt p) d p := ⟨a.sm, a.fn, Nat.le_refl _, a.dp⟩
    exact (Things.cons a' (Things.app b' h')).up (by omega) (Nat.le_refl _)
theorem Things.take {d : Nat} : ∀ {n : Nat} {ps : List Pv} (k : Nat), Things n d ps → Things n d (ps.take k)
  | n, [], k, h => by rw [List.take_nil]; exact h
  | n, p :: ps, 0, h => Things.nil
  | n, p :: ps, k + 1, h => by
    obtain ⟨a, b, c⟩ := h.uncons
    have b' : Things (wts ps) d ps := ⟨b.sm, b.fn, Nat.le_refl _, b.dp⟩
    have a' : Thing (PL.wt p) d p := ⟨a.sm, a.fn, Nat.le_refl _, a.dp⟩
    exact (Things.cons a' (b'.take k)).up (by omega) (Nat.le_refl _)
theorem Things.drop {d : Nat} : ∀ {n : Nat} {ps : List Pv} (k : Nat), Things n d ps → Things n d (ps.drop k)
  | n, [], k, h => by rw [List.drop_nil]; exact h
  | n, p :: ps, 0, h => h
  | n, p :: ps, k + 1, h => by
    obtain ⟨a, b, c⟩ := h.uncons
    exact (b.drop k)
theorem Things.mem {d : Nat} : ∀ {n : Nat} {ps : List Pv}, Things n d ps → ∀ p ∈ ps, Thing n d p
  | n, [], h, p, hp => by cases hp
  | n, q :: ps, h, p, hp => by
    obtain ⟨a, b, c⟩ := h.uncons
    rcases List.mem_cons.mp hp with rfl | hp
    · exact a
    · exact b.mem p hp
theorem Things.of {n d : Nat} : ∀ {ps : List Pv}, (∀ p ∈ ps, Thing n d p) → Things ((n + 2) * ps.length) d ps
  | [], _ => Things.nil
  | p :: ps, h => (Things.cons (h p List.mem_cons_self) (Things.of fun q hq => h q (List.mem_cons_of_mem _ hq))).up (by rw [List.length_cons, Nat.mul_succ]; omega) (Nat.le_refl _)
theorem Thing.tup {n d : Nat} {ps : List Pv} (h : Things n d ps) (l : ps.length ≤ 1000) : Thing (n + 3) (d + 1) (.tup ps) := by
  refine ⟨?_, h.fn, Nat.add_le_add_right h.wt 3, Nat.succ_le_succ h.dp⟩
  show (decide (ps.length ≤ 1000) && smPs ps) = true
  rw [decide_eq_true l, h.sm]; rfl
theorem Thing.lst {n d : Nat} {ps : List Pv} (h : Things n d ps) : Thing (n + 3) (d + 1) (.lst ps) := ⟨rfl, h.fn, Nat.add_le_add_right h.wt 3, Nat.succ_le_succ h.dp⟩
theorem Thing.un {n d : Nat} {ps : List Pv} (h : Thing n (d + 1) (.tup ps)) : Things n d ps ∧ ps.length ≤ 1000 := by
  obtain ⟨h1, h2, h3, h4⟩ := h
  obtain ⟨a, b⟩ := smP_tup h1
  have h3 : wts ps + 3 ≤ n := h3
  exact ⟨⟨b, h2, by omega, Nat.le_of_succ_le_succ h4⟩, a⟩
theorem Thing.str {n d : Nat} {x : Str} (h : asc x = true) (l : x.length ≤ n) (l2 : n ≤ 1000) : Thing (10 * n + 2) d (.str x) := by
  refine ⟨?_, h, ?_, Nat.zero_le _⟩
  · show (decide (x.length ≤ 1000) && asc x) = true
    rw [h, decide_eq_true (show x.length ≤ 1000 by omega)]; rfl
  · show 10 * x.length + 2 ≤ _
    omega
theorem Thing.int {n d : Nat} {i : Int} (h : szI n i) (l : n ≤ 1800) : Thing (n + 4) d (.int i) := by
  have hl : i.natAbs.log2 < n + 1 := PySem.Flt.log2_lt_of (Nat.succ_pos n) (h.up (Nat.le_succ n))
  exact ⟨rfl, decide_eq_true (show i.natAbs.log2 < 1900 by omega), show i.natAbs.log2 + 4 ≤ n + 4 by omega, Nat.zero_le _⟩
/-! ### data that are compared -/
theorem isDs_iff : ∀ {ps : List Pv}, isDs ps = true ↔ ∀ p ∈ ps, isD p = true
  | [] => by simp [isDs]
  | p :: ps => by
    have ih := isDs_iff (ps := ps)
    simp only [isDs, Bool.and_eq_true, ih, List.mem_cons, forall_eq_or_imp]
theorem isEs_iff : ∀ {ps : List Pv}, isEs ps = true ↔ ∀ p ∈ ps, isE p = true
  | [] => by simp [isEs]
  | p :: ps => by
    have ih := isEs_iff (ps := ps)
    simp only [isEs, Bool.and_eq_true, ih, List.mem_cons, forall_eq_or_imp]
theorem asc_ok {x : Str} (h : asc x = true) : PyData.strOk x = true := by
  unfold PyData.strOk
  rw [Array.all_eq_true']
  intro c hc
  exact decide_eq_true (Nat.lt_trans (asc_lt h c (by simpa using hc)) (by decide))
mutual
theorem lay_of : ∀ p : Pv, isD p = true → fine p = true → PyData.canLay0 (toD p) = true
  | .non, _, _ => rfl
  | .bl _, _, _ => rfl
  | .int _, _, _ => rfl
  | .str x, _, h => asc_ok h
  | .tup xs, d, h => lays_of xs d h
  | .lst xs, d, h => lays_of xs d h
  | .scr _, _, h => by cases h
  | .dct _ _, d, _ => by cases d
  | .ref _, d, _ => by cases d
  | .ty _, d, _ => by cases d
theorem lays_of : ∀ ps : List Pv, isDs ps = true → fines ps = true → PyData.canLayAll0 (toDs ps) = true
  | [], _, _ => rfl
  | p :: ps, d, h => by
    have d : isD p = true ∧ isDs ps = true := by simpa [isDs] using d
    have h : fine p = true ∧ fines ps = true := by simpa [fines] using h
    show (PyData.canLay0 (toD p) && PyData.canLayAll0 (toDs ps)) = true
    rw [lay_of p d.1 h.1, lays_of ps d.2 h.2]; rfl
end
theorem okD_of {p : Pv} (d : isD p = true) (h : fine p = true) (l : dpP p ≤ 60) : okD p = true := by
  unfold okD SeqAt.shaped
  rw [d, lay_of p d h, decide_eq_true (Nat.le_trans (shown_le p h).2.2 (Nat.le_trans l (by decide)))]
  rfl
theorem eqv_nilT (ds : List PyData) : PyData.eqv (.tuple ds) (.tuple []) = ds.isEmpty := by
  cases ds <;> rfl
/-! ### lists of texts, of whole numbers -/
theorem fines_chars : ∀ cs : List Nat, (∀ c ∈ cs, c < 128) → fines (cs.map fun c => Pv.str ⟨#[c]⟩) = true
  | [], _ => rfl
  | c :: cs, h => by
    show (asc ⟨#[c]⟩ && fines (cs.map fun c => Pv.str ⟨#[c]⟩)) = true
    rw [fines_chars cs fun d hd => h d (List.mem_cons_of_mem _ hd), Bool.and_true]
    show (decide (c < 128) && true) = true
    rw [decide_eq_true (h c List.mem_cons_self)]; rfl
theorem dpPs_flat {α : Type} {f : α → Pv} (h : ∀ x, dpP (f x) = 0) : ∀ xs : List α, dpPs (xs.map f) = 0
  | [] => rfl
  | x :: xs => by show max (dpP (f x)) (dpPs (xs.map f)) = 0; rw [h x, dpPs_flat h xs]; rfl
theorem okD_chars {cs : List Nat} (h : ∀ c ∈ cs, c < 128) : okD (.lst (cs.map fun c => Pv.str ⟨#[c]⟩)) = true := by
  refine okD_of (isDs_map (fun _ => rfl) cs) (fines_chars cs h) ?_
  show dpPs (cs.map fun c => Pv.str ⟨#[c]⟩) + 1 ≤ 60
  rw [dpPs_flat (fun _ => rfl)]; decide
theorem fines_str : ∀ ss : List Str, (∀ s ∈ ss, asc s = true) → fines (ss.map Pv.str) = true
  | [], _ => rfl
  | s :: ss, h => by
    show (asc s && fines (ss.map Pv.str)) = true
    rw [h s List.mem_cons_self, fines_str ss fun t ht => h t (List.mem_cons_of_mem _ ht)]; rfl
theorem okD_lstr {ss : List Str} (h : ∀ s ∈ ss, asc s = true) : okD (.lst (ss.map Pv.str)) = true := by
  refine okD_of (isDs_map (fun _ => rfl) ss) (fines_str ss h) ?_
  show dpPs (ss.map Pv.str) + 1 ≤ 60
  rw [dpPs_flat (fun _ => rfl)]; decide
theorem lay_ints : ∀ is : List Int, PyData.canLayAll0 (toDs (is.map Pv.int)) = true
  | [] => rfl
  | i :: is => by show (true && PyData.canLayAll0 (toDs (is.map Pv.int))) = true; rw [lay_ints is]; rfl
theorem dep_ints : ∀ is : List Int, PyData.depthAll (toDs (is.map Pv.int)) = 0
  | [] => rfl
  | i :: is => by show max 0 (PyData.depthAll (toDs (is.map Pv.int))) = 0; rw [dep_ints is]; rfl
theorem okD_lint (is : List Int) : okD (.lst (is.map Pv.int)) = true := by
  unfold okD SeqAt.shaped
  have h1 : isD (.lst (is.map Pv.int)) = true := isDs_map (fun _ => rfl) is
  have h2 : PyData.canLay0 (toD (.lst (is.map Pv.int))) = true := lay_ints is
  have h3 : PyData.depth (toD (.lst (is.map Pv.int))) = 1 := by show PyData.depthAll (toDs (is.map Pv.int)) + 1 = 1; rw [dep_ints]
  rw [h1, h2, h3]; rfl
theorem eqv_lstr : ∀ a b : List Str, PyData.eqvAll (toDs (a.map Pv.str)) (toDs (b.map Pv.str)) = decide (a = b)
  | [], [] => rfl
  | [], _ :: _ => rfl
  | _ :: _, [] => rfl
  | x :: a, y :: b => by
    show ((x == y) && PyData.eqvAll (toDs (a.map Pv.str)) (toDs (b.map Pv.str))) = _
    rw [eqv_lstr a b, Bool.eq_iff_iff]
    simp
theorem eqv_lint : ∀ a b : List Int, PyData.eqvAll (toDs (a.map Pv.int)) (toDs (b.map Pv.int)) = decide (a = b)
  | [], [] => rfl
  | [], _ :: _ => rfl
  | _ :: _, [] => rfl
  | x :: a, y :: b => by
    show ((x == y) && PyData.eqvAll (toDs (a.map Pv.int)) (toDs (b.map Pv.int))) = _
    rw [eqv_lint a b, Bool.eq_iff_iff]
    simp
def sortI (xs : List Int) : List Int := xs.mergeSort fun a b => decide (a ≤ b)
theorem sortP_int (xs : List Int) : sortP (xs.map .int) = (sortI xs).map .int := by
  unfold sortP sortI
  rw [List.map_mergeSort (s := PySem.W.dataLe false toD) (f := Pv.int)]
  intro a _ b _
  have := congrFun (congrFun (PySem.W.dataLe_int (k := fun s : Int => s)) a) b
  exact this.symm
theorem sortI_eq {xs : List Int} : sortI xs = xs ↔ xs.Pairwise fun a b => a ≤ b := by
  have tr : ∀ a b c : Int, decide (a ≤ b) = true → decide (b ≤ c) = true → decide (a ≤ c) = true := by
    intro a b c h h'
    rw [decide_eq_true_eq] at *
    omega
  have to : ∀ a b : Int, (decide (a ≤ b) || decide (b ≤ a)) = true := by
    intro a b
    rw [Bool.or_eq_true, decide_eq_true_eq, decide_eq_true_eq]
    omega
  constructor
  · intro h
    rw [← h]
    exact (List.pairwise_mergeSort tr to xs).imp fun {a b} z => of_decide_eq_true z
  · intro h
    exact List.mergeSort_of_pairwise (h.imp fun {a b} z => decide_eq_true z)
theorem sortI_pw (xs : List Int) : (sortI xs).Pairwise fun a b => a ≤ b := by
  have tr : ∀ a b c : Int, decide (a ≤ b) = true → decide (b ≤ c) = true → decide (a ≤ c) = true := by
    intro a b c h h'
    rw [decide_eq_true_eq] at *
    omega
  have to : ∀ a b : Int, (decide (a ≤ b) || decide (b ≤ a)) = true := by
    intro a b
    rw [Bool.or_eq_true, decide_eq_true_eq, decide_eq_true_eq]
    omega
  exact (List.pairwise_mergeSort tr to xs).imp fun {a b} z => of_decide_eq_true z
/-! ### the other pen: a number and a mark -/
def Pn2 (m : Mo) : Prop := ∃ d f : Int, m = .lst [.int d, .int f] ∧ 0 ≤ d
theorem ix2_0 : ixN 2 0 = some 0 := rfl
theorem ix2_1 : ixN 2 1 = some 1 := rfl
end PL

/-! Moves: plain. -/
namespace PL
open PySem PySem.Spec PyProof.Rows L2
def neT : Pv → Bool
  | .tup [] => false
  | _ => true
def mvQ : Pv → Bool
  | .tup [d, c, r] => dayP d && ((codesP 4 c && neT c) && wordP r)
  | _ => false
def dayI : Pv → Int
  | .tup (.int d :: _) => d
  | _ => 0
def nonfall (is : List Int) : Bool := (is.zip is.tail).all fun p => decide (p.1 ≤ p.2)
def movesP : Pv → Bool
  | .tup ms => decide (ms.length ≤ 24) && (ms.all mvQ && nonfall (ms.map dayI))
  | _ => false
def tup3 (t : Pv × Pv × Pv) : Pv := .tup [t.1, t.2.1, t.2.2]
theorem tup3_of : ∀ {ms : List Pv}, ms.all (tupN 3) = true → ∃ ts : List (Pv × Pv × Pv), ms = ts.map tup3
  | [], _ => ⟨[], rfl⟩
  | m :: ms, h => by
    have h : tupN 3 m = true ∧ ms.all (tupN 3) = true := by simpa using h
    obtain ⟨ts, rfl⟩ := tup3_of h.2
    cases m with
    | tup ys =>
      match ys, h.1 with
      | [a, b, c], _ => exact ⟨(a, b, c) :: ts, rfl⟩
      | [], h => simp [tupN] at h
      | [_], h => simp [tupN] at h
      | [_, _], h => simp [tupN] at h
      | _ :: _ :: _ :: _ :: _, h => simp [tupN] at h
    | _ => simp [tupN] at h
theorem mvQ_3 {m : Pv} (h : mvQ m = true) : tupN 3 m = true := by
  cases m with
  | tup ys =>
    match ys, h with
    | [a, b, c], _ => rfl
    | [], h => cases h
    | [_], h => cases h
    | [_, _], h => cases h
    | _ :: _ :: _ :: _ :: _, h => cases h
  | _ => cases h
theorem codes_strs {n : Nat} {c : Pv} (h : codesP n c = true) : ∃ ss : List Str, c = .tup (ss.map .str) ∧ codesS n ss = true := by
  cases c with
  | tup xs =>
    have h : (match allS xs with | some ss => codesS n ss | none => false) = true := h
    cases hS : allS xs with
    | none => rw [hS] at h; cases h
    | some ss => rw [hS] at h; exact ⟨ss, by rw [allS_is hS], h⟩
  | _ => cases h
theorem fines_strs : ∀ ss : List Str, (∀ s ∈ ss, asc s = true) → fines (ss.map Pv.str) = true
  | [], _ => rfl
  | s :: ss, h => by
    show (asc s && fines (ss.map Pv.str)) = true
    rw [h s List.mem_cons_self, fines_strs ss fun t ht => h t (List.mem_cons_of_mem _ ht)]; rfl
theorem dpPs_strs : ∀ ss : List Str, dpPs (ss.map Pv.str) = 0
  | [] => rfl
  | s :: ss => by show max 0 (dpPs (ss.map Pv.str)) = 0; rw [dpPs_strs ss]; rfl
theorem okD_strs {ss : List Str} (h : smP (.tup (ss.map .str)) = true) : okD (.tup (ss.map .str)) = true := by
  obtain ⟨_, hs⟩ := smP_tup h
  refine okD_of (isDs_map (fun _ => rfl) ss) (fines_strs ss fun s hs2 => smP_asc (smPs_mem hs (.str s) (List.mem_map.mpr ⟨s, hs2, rfl⟩))) ?_
  show dpPs (ss.map Pv.str) + 1 ≤ 60
  rw [dpPs_strs]; decide
/-- a thing, plain, if it is a tuple -/
def plainT (x : Pv) : Prop := smP x = true ∧ (isD x = true ∧ fine x = true ∧ dpP x ≤ 60 ∨ x = .dct [] [])
theorem asc_mem {ss : List Str} (h : smP (.tup (ss.map .str)) = true) : ∀ s ∈ ss, asc s = true ∧ s.length ≤ 1000 := by
  intro s hs
  have := smPs_mem (smP_tup h).2 (.str s) (List.mem_map.mpr ⟨s, hs, rfl⟩)
  exact ⟨smP_asc this, smP_str this⟩
theorem empty_all (l : List Nat) (f : Nat → Bool) : (toDs ((l.filter fun c => !f c).map fun c => Pv.str ⟨#[c]⟩)).isEmpty = l.all f := by
  rw [toDs_map, List.isEmpty_map, List.isEmpty_map]
  induction l with
  | nil => rfl
  | cons c l ih =>
    rw [List.all_cons, List.filter_cons]
    cases f c with
    | true => simpa using ih
    | false => rfl
theorem plains {n : Nat} : ∀ {xs : List Pv}, isDs xs = true → fines xs = true → dpPs xs ≤ n → ∀ y ∈ xs, isD y = true ∧ fine y = true ∧ dpP y ≤ n
  | [], _, _, _, y, hy => by cases hy
  | x :: xs, d, f, p, y, hy => by
    have d : isD x = true ∧ isDs xs = true := by simpa [isDs] using d
    have f : fine x = true ∧ fines xs = true := by simpa [fines] using f
    have p : max (dpP x) (dpPs xs) ≤ n := p
    rcases List.mem_cons.mp hy with rfl | hy
    · exact ⟨d.1, f.1, by omega⟩
    · exact plains d.2 f.2 (by omega) y hy
theorem plain_un {xs : List Pv} (h : plainT (.tup xs)) : xs.length ≤ 1000 ∧ ∀ y ∈ xs, plainT y := by
  obtain ⟨h1, h2⟩ := h
  obtain ⟨hl, hs⟩ := smP_tup h1
  refine ⟨hl, fun y hy => ⟨smPs_mem hs y hy, ?_⟩⟩
  rcases h2 with ⟨d, f, p⟩ | h2
  · left
    have p : dpPs xs + 1 ≤ 60 := p
    obtain ⟨a, b, c⟩ := plains (n := 59) d f (by omega) y hy
    exact ⟨a, b, by omega⟩
  · cases h2
theorem nonfall_iff (is : List Int) : nonfall is = decide (is = sortI is) := by
  have e := adj_pw (r := fun a b : Int => decide (a ≤ b)) (fun a b c h h' => by rw [decide_eq_true_eq] at *; omega) is
  unfold nonfall
  rw [Bool.eq_iff_iff, e, decide_eq_true_eq]
  constructor
  · intro z
    exact (sortI_eq.mpr (z.imp fun {a b} w => of_decide_eq_true w)).symm
  · intro z
    exact (sortI_eq.mp z.symm).imp fun {a b} w => decide_eq_true w
theorem codeN_cd {n : Nat} {ds : List Nat} (h4 : ∀ d ∈ ds, d < 4) (hl : ds.length ≤ n) (h9 : n ≤ 9) : codeN n (cdS ds) = true := by
  unfold codeN codeS
  rw [cd_len, decide_eq_true (show ds.length ≤ 9 by omega), decide_eq_true hl]
  have : (cdS ds).cps.toList.all figC = true := by
    show (ds.map (· + 48)).all figC = true
    rw [List.all_map]
    refine List.all_eq_true.mpr fun d hd => ?_
    have := h4 d hd
    show (decide (48 ≤ d + 48) && decide (d + 48 ≤ 51)) = true
    rw [decide_eq_true (by omega), decide_eq_true (by omega)]; rfl
  rw [this]; rfl
theorem codeN_asc {n : Nat} {x : Str} (h : codeN n x = true) : asc x = true ∧ x.length ≤ n ∧ x.length ≤ 9 := by
  unfold codeN codeS at h
  simp only [Bool.and_eq_true, decide_eq_true_eq] at h
  refine ⟨List.all_eq_true.mpr fun c hc => ?_, h.2, h.1.1⟩
  have := List.all_eq_true.mp h.1.2 c hc
  unfold figC at this
  simp only [Bool.and_eq_true, decide_eq_true_eq] at this
  exact decide_eq_true (by omega)
def nbr (a b : Str) : Prop := preS a b = false ∧ preS b a = false
theorem apart_of {ss : List Str} (h : ss.Pairwise nbr) : (sortS ss).Pairwise fun a b => apart a b = true := by
  have h1 := sortS_pw ss
  have h2 : (sortS ss).Pairwise nbr := ((List.mergeSort_perm ss leS).pairwise_iff fun {a b} z => ⟨z.2, z.1⟩).mpr h
  refine (h1.and h2).imp fun {a b} z => ?_
  unfold apart
  rw [z.2.1, leS_lt z.1 (fun e => by
    have := z.2.1
    rw [e] at this
    rw [(preS_iff b b).mpr (List.prefix_refl _)] at this
    cases this)]
  rfl
mutual
/-- tuples of at most a hundred -/
def shP : Pv → Bool
  | .tup xs => decide (xs.length ≤ 100) && shPs xs
  | .non => true | .bl _ => true | .int _ => true | .str _ => true | .lst _ => true | .dct _ _ => true | .scr _ => true | .ref _ => true | .ty _ => true
def shPs : List Pv → Bool
  | [] => true
  | x :: xs => shP x && shPs xs
end
theorem shPs_iff : ∀ {ps : List Pv}, shPs ps = true ↔ ∀ p ∈ ps, shP p = true
  | [] => by simp [shPs]
  | p :: ps => by
    have ih := shPs_iff (ps := ps)
    simp only [shPs, Bool.and_eq_true, ih, List.mem_cons, forall_eq_or_imp]
theorem shP_tup {xs : List Pv} (h : shP (.tup xs) = true) : xs.length ≤ 100 ∧ ∀ p ∈ xs, shP p = true := by
  have : decide (xs.length ≤ 100) = true ∧ shPs xs = true := by simpa [shP] using h
  exact ⟨of_decide_eq_true this.1, shPs_iff.mp this.2⟩
/-- a drawn move -/
structure MvOk (m : Pv) : Prop where
  q : mvQ m = true
  th : Thing 500 2 m
  d : isD m = true
  e : isE m = true
  sh : shP m = true
theorem isEs_map {α : Type} {f : α → Pv} (h : ∀ x, isE (f x) = true) : ∀ xs : List α, isEs (xs.map f) = true
  | [] => rfl
  | x :: xs => by show (isE (f x) && isEs (xs.map f)) = true; rw [h x, isEs_map h xs]; rfl
theorem codes_thing {ss : List Str} (h : codesS 4 ss = true) (hl : ss.length ≤ 6) : Thing 300 1 (.tup (ss.map .str)) := by
  have hc : ∀ s ∈ ss, codeN 4 s = true := by
    have : ss.all (codeN 4) = true := by
      unfold codesS at h
      exact (Bool.and_eq_true_iff.mp h).1
    exact List.all_eq_true.mp this
  have hT : ∀ p ∈ ss.map Pv.str, Thing 42 0 p := by
    intro p hp
    obtain ⟨s, hs, rfl⟩ := List.mem_map.mp hp
    obtain ⟨h1, h2, _⟩ := codeN_asc (hc s hs)
    exact Thing.str (n := 4) h1 h2 (by decide)
  have := Things.of hT
  rw [List.length_map] at this
  refine (Thing.tup (this.up (m := 264) ?_ (Nat.le_refl _)) (by rw [List.length_map]; omega)).up (by decide) (Nat.le_refl _)
  have : (42 + 2) * ss.length ≤ 44 * 6 := Nat.mul_le_mul_left _ hl
  omega
theorem mvOk {d : Int} {ss : List Str} {w : Str} (h0 : 0 ≤ d) (hd : szI 80 d) (hs : codesS 4 ss = true) (hne : ss ≠ []) (hl : ss.length ≤ 6) (hw : wordS w = true) : MvOk (.tup [.int d, .tup (ss.map .str), .str w]) := by
  have hw2 : asc w = true ∧ w.length ≤ 8 := by
    unfold wordS at hw
    simp only [Bool.and_eq_true, decide_eq_true_eq] at hw
    refine ⟨List.all_eq_true.mpr fun c hc => ?_, hw.1.2⟩
    have := List.all_eq_true.mp hw.2 c hc
    unfold smallC at this
    simp only [Bool.and_eq_true, decide_eq_true_eq] at this
    exact decide_eq_true (by omega)
  refine ⟨?_, ?_, ?_, ?_, ?_⟩
  · show (decide (0 ≤ d) && (((match allS (ss.map .str) with | some ss => codesS 4 ss | none => false) && neT (.tup (ss.map .str))) && wordS w)) = true
    rw [allS_str, decide_eq_true h0, hw]
    show (true && ((codesS 4 ss && _) && true)) = true
    rw [hs]
    cases ss with
    | nil => exact absurd rfl hne
    | cons _ _ => rfl
  · refine (Thing.tup (Things.cons (Thing.int (d := 1) hd (by decide)) (Things.cons (codes_thing hs hl) (Things.cons (Thing.str (n := 8) hw2.1 hw2.2 (by decide)) (Things.nil (n := 0))))) (by show 3 ≤ 1000; decide)).up (by decide) (Nat.le_refl _)
  · show (true && (isDs (ss.map .str) && (true && true))) = true
    rw [isDs_map (fun _ => rfl)]; rfl
  · show (true && (isEs (ss.map .str) && (true && true))) = true
    rw [isEs_map (fun _ => rfl)]; rfl
  · show (true && (true && ((decide ((ss.map Pv.str).length ≤ 100) && shPs (ss.map .str)) && (true && true)))) = true
    rw [decide_eq_true (by rw [List.length_map]; omega), shPs_iff.mpr (fun p hp => by
      obtain ⟨s, _, rfl⟩ := List.mem_map.mp hp
      rfl)]
    rfl
/-- moves that are drawn -/
structure MovesOk (p : Pv) : Prop where
  q : movesP p = true
  th : Thing 13000 3 p
  d : isD p = true
  e : isE p = true
  sh : shP p = true
theorem movesOk {ms : List Pv} (h : ∀ m ∈ ms, MvOk m) (hl : ms.length ≤ 24) (hp : (ms.map dayI).Pairwise (· ≤ ·)) : MovesOk (.tup ms) := by
  refine ⟨?_, ?_, isDs_iff.mpr fun m hm => (h m hm).d, isEs_iff.mpr fun m hm => (h m hm).e, ?_⟩
  · show (decide (ms.length ≤ 24) && (ms.all mvQ && nonfall (ms.map dayI))) = true
    rw [decide_eq_true hl, List.all_eq_true.mpr fun m hm => (h m hm).q, nonfall_iff, decide_eq_true (sortI_eq.mpr hp).symm]; rfl
  · have := Things.of fun m hm => (h m hm).th
    refine (Thing.tup (this.up (m := 12900) ?_ (Nat.le_refl _)) (by omega)).up (by decide) (Nat.le_refl _)
    have : (500 + 2) * ms.length ≤ 502 * 24 := Nat.mul_le_mul_left _ hl
    omega
  · show (decide (ms.length ≤ 100) && shPs ms) = true
    rw [decide_eq_true (by omega), shPs_iff.mpr fun m hm => (h m hm).sh]; rfl
theorem Things.cut {n d : Nat} {ps : List Pv} (h : Things n d ps) (lo hi : Option Int) : Things n d (cutP ps lo hi) := by
  unfold cutP
  exact (h.drop _).take _
theorem cut_len (ps : List Pv) (lo hi : Option Int) : (cutP ps lo hi).length ≤ ps.length := by
  unfold cutP
  rw [List.length_take, List.length_drop]
  omega
theorem cut_mem {ps : List Pv} {lo hi : Option Int} {p : Pv} (h : p ∈ cutP ps lo hi) : p ∈ ps := List.mem_of_mem_drop (List.mem_of_mem_take h)
/-- a thing that may be shown and looked at -/
def ThOk (p : Pv) : Prop := okR p ∧ plainT p
def thB (p : Pv) : Bool := (smP p && isD p) && (fine p && (decide (dpP p ≤ 20) && decide (wt p ≤ 16000000)))
theorem thB_ok {p : Pv} (h : thB p = true) : ThOk p := by
  unfold thB at h
  simp only [Bool.and_eq_true, decide_eq_true_eq] at h
  obtain ⟨⟨h1, h2⟩, h3, h4, h5⟩ := h
  exact ⟨Thing.ok ⟨h1, h3, h5, h4⟩ (by rw [h2]; rfl) (Nat.le_refl _) (by decide), h1, .inl ⟨h2, h3, Nat.le_trans h4 (by decide)⟩⟩
theorem thB_all {ps : List Pv} (h : ps.all thB = true) : ∀ p ∈ ps, ThOk p := fun p hp => thB_ok (List.all_eq_true.mp h p hp)
theorem Thing.tho {n d : Nat} {p : Pv} (h : Thing n d p) (hd : isD p = true) (l : n ≤ 16000000) (l' : d ≤ 60) : ThOk p := ⟨h.ok (by rw [hd]; rfl) l l', h.sm, .inl ⟨hd, h.fn, Nat.le_trans h.dp l'⟩⟩
theorem dct_tho : ThOk (.dct [] []) := ⟨⟨rfl, rfl, by decide +kernel, by decide +kernel⟩, rfl, .inr rfl⟩
end PL

/-! Sets of keys of any depth (after the way of HandS.TupSets): what a set holds, as a list of values with their keys. -/
namespace PLS
open PySem PySem.Spec PyProof.Rows L2
section
variable {P : Program} {w : World} {A : Around} {E : Value → Shared → Prop} {s : Shared}
mutual
theorem hashBy_key : ∀ (k : NestedKey) (v : Value) (n : Nat) (A : Around) (E : Value → Shared → Prop) (Q : Bool → Shared → Prop), NestedIs s.heap k v → (∀ b, Q b s) → wpAny (model P w) A (hashByValue n v) Q E s
  | .none, _, n, A, E, Q, x, h => by cases x; cases n <;> exact wpAny_pure (h _)
  | .num i, _, n, A, E, Q, x, h => by cases x <;> cases n <;> exact wpAny_pure (h _)
  | .text y, _, n, A, E, Q, x, h => by cases x; cases n <;> exact wpAny_pure (h _)
  | .tup ks, _, n, A, E, Q, x, h => by
    cases x with
    | @tup a o vs m _ hg hc hd hk =>
      cases n with
      | zero => exact wpAny_pure (h _)
      | succ n =>
        unfold hashByValue
        refine wpAny_bind (wpAny_specialOf ⟨o, hg, hc⟩ F.slot_tuple_hash.lookup ?_)
        show wpAny _ _ (seqItems? (.ref a) >>= _) _ _ s
        refine wpAny_bind (wpAny_seqItems hg hd ?_)
        refine wpAny_bind ?_
        show wpAny _ _ (forIn vs _ _) _ _ s
        rw [← Array.forIn_toList]
        refine hashBy_keys ks vs.toList n A E _ hk fun r => ?_
        obtain ⟨r1, r2⟩ := r
        cases r1 with
        | none => exact wpAny_pure (h _)
        | some b => exact wpAny_pure (h _)
theorem hashBy_keys : ∀ (ks : List NestedKey) (vs : List Value) (n : Nat) (A : Around) (E : Value → Shared → Prop) (Q : Option Bool × Unit → Shared → Prop), NestedAll s.heap ks vs → (∀ r, Q r s) →
    wpAny (model P w) A (forIn vs ((none, ()) : Option Bool × Unit) fun x r => do if !(← hashByValue n x) then pure (ForInStep.done (some false, ())) else pure (ForInStep.yield (none, ()))) Q E s
  | [], _, n, A, E, Q, x, h => by cases x; exact wpAny_pure (h _)
  | k :: ks, _, n, A, E, Q, x, h => by
    cases x with
    | cons x1 x2 =>
      rw [List.forIn_cons]
      refine wpAny_bind (wpAny_bind (hashBy_key k _ n A E _ x1 fun b => ?_))
      cases b with
      | false => exact wpAny_pure (wpAny_pure (h _))
      | true => exact wpAny_pure (hashBy_keys ks _ n A E Q x2 h)
end

mutual
theorem ofAClass_key : ∀ (k : NestedKey) (v : Value) (n : Nat) (A : Around) (E : Value → Shared → Prop) (Q : Bool → Shared → Prop), NestedIs s.heap k v → k.depth ≤ n → Q false s → wpAny (model P w) A (ofAClassStatement n v) Q E s
  | .none, _, n, A, E, Q, x, _, h => by cases x; cases n <;> exact wpAny_pure h
  | .num i, _, n, A, E, Q, x, _, h => by cases x <;> cases n <;> exact wpAny_pure h
  | .text y, _, n, A, E, Q, x, _, h => by cases x; cases n <;> exact wpAny_pure h
  | .tup ks, _, n, A, E, Q, x, hn, h => by
    cases x with
    | @tup a o vs m _ hg hc hd hk =>
      cases n with
      | zero => exact absurd hn (by rw [NestedKey.depth]; omega)
      | succ n =>
        unfold ofAClassStatement
        refine wpAny_bind (wpAny_typeOf ⟨o, hg, hc⟩ ?_)
        dsimp only
        have e : (("tuple" : String) == "tuple") = true := by decide
        simp only [e, if_true, Bool.not_true, Bool.false_eq_true, if_false]
        try refine wpAny_bind (wpAny_pure ?_)
        try simp only [Bool.not_true, Bool.false_eq_true, if_false]
        show wpAny _ _ (seqItems? (.ref a) >>= _) _ _ s
        refine wpAny_bind (wpAny_seqItems hg hd ?_)
        dsimp only
        refine wpAny_bind ?_
        show wpAny _ _ (forIn vs _ _) _ _ s
        rw [← Array.forIn_toList]
        refine ofAClass_keys ks vs.toList n A E _ hk (by rw [NestedKey.depth] at hn; omega) ?_
        exact wpAny_pure h
theorem ofAClass_keys : ∀ (ks : List NestedKey) (vs : List Value) (n : Nat) (A : Around) (E : Value → Shared → Prop) (Q : Option Bool × Unit → Shared → Prop), NestedAll s.heap ks vs → NestedKey.depthAll ks ≤ n → Q (none, ()) s →
    wpAny (model P w) A (forIn vs ((none, ()) : Option Bool × Unit) fun x r => do if (← ofAClassStatement n x) then pure (ForInStep.done (some true, ())) else pure (ForInStep.yield (none, ()))) Q E s
  | [], _, n, A, E, Q, x, _, h => by cases x; exact wpAny_pure h
  | k :: ks, _, n, A, E, Q, x, hn, h => by
    cases x with
    | cons x1 x2 =>
      rw [NestedKey.depthAll] at hn
      rw [List.forIn_cons]
      refine wpAny_bind (wpAny_bind (ofAClass_key k _ n A E _ x1 (by omega) ?_))
      exact wpAny_pure (ofAClass_keys ks _ n A E Q x2 (by omega) h)
end
/-- a tuple key -/
structure TK (h : Heap) (k : NestedKey) (v : Value) : Prop where
  is : NestedIs h k v
  deep : k.depth ≤ 8
  ref : ∃ b, v = .ref b
theorem TK.keep {h h' : Heap} {k : NestedKey} {v : Value} (x : TK h k v) (hk : ∀ a o vs n, h.get? a = some o → o.data = .seq vs n → h'.get? a = some o) : TK h' k v := ⟨x.is.at hk, x.deep, x.ref⟩
theorem TK.same {h h' : Heap} {k : NestedKey} {v : Value} {a : Addr} {o : Obj} {es : Array (Int × Value)} {ep : Nat} {t : SetTable} (x : TK h k v) (ho : h.get? a = some o) (hd : o.data = .set es ep t) (hs : Heap.SameBut a h h') : TK h' k v :=
  x.keep fun b ob vs n hb hq => (hs.2 b fun e => by
    rw [e, ho] at hb
    cases hb
    rw [hd] at hq
    cases hq).trans hb
theorem seen_key {k : NestedKey} {v : Value} {Q : Bool → Shared → Prop} (hk : TK s.heap k v) {ys : List Value} (hy : ∀ y ∈ ys, ∃ k', TK s.heap k' y) (h : Q false s) :
    wpAny (model P w) A (searchCouldBeSeen v ys) Q E s := by
  obtain ⟨b, rfl⟩ := hk.ref
  unfold searchCouldBeSeen
  refine wpAny_bind ?_
  refine wpAny_forIn_list _ (fun rest r s' => r.1 = none ∧ s' = s ∧ ∀ y ∈ rest, ∃ k', TK s.heap k' y) _ ?_ ?_ _ _ ⟨rfl, rfl, hy⟩
  · rintro v rest r s' ⟨hr, rfl, hall⟩
    obtain ⟨k', hc⟩ := hall v List.mem_cons_self
    obtain ⟨c, rfl⟩ := hc.ref
    have rest' : ∀ y ∈ rest, ∃ k', TK s'.heap k' y := fun u hu' => hall u (List.mem_cons_of_mem _ hu')
    dsimp only
    by_cases hv : (b == c || (carriedByValue (.ref b) && carriedByValue (.ref c))) = true
    · refine wp_if_pos hv ?_
      exact wpAny_pure ⟨rfl, rfl, rest'⟩
    · refine wp_if_neg hv ?_
      refine wpAny_bind (quiet_key k _ 8 s' hk.is hk.deep A E _ ?_)
      simp only [Bool.not_true, Bool.false_eq_true, if_false]
      refine wpAny_bind (quiet_key k' _ 8 s' hc.is hc.deep A E _ ?_)
      simp only [Bool.not_true, Bool.false_eq_true, if_false]
      refine wpAny_bind (ofAClass_key k _ 8 A E _ hk.is hk.deep ?_)
      simp only [Bool.false_eq_true, if_false]
      refine wpAny_bind (ofAClass_key k' _ 8 A E _ hc.is hc.deep ?_)
      simp only [Bool.false_eq_true, if_false]
      exact wpAny_pure ⟨rfl, rfl, rest'⟩
  · rintro ⟨r1, r2⟩ s' ⟨hr, rfl, _⟩
    simp only at hr
    subst hr
    exact wpAny_pure h
abbrev Es := List (Value × NestedKey)
abbrev nh (w : World) (k : NestedKey) : Int := k.hash w
def rws (w : World) (L : Es) : List (Int × Value) := L.map fun p => (nh w p.2, p.1)
/-- the set at a holds L, tuples that are keys; its table is found through -/
structure SetP (w : World) (h : Heap) (a : Addr) (L : Es) (es : Array (Int × Value)) (ep : Nat) (t : SetTable) : Prop where
  ob : ∃ o, h.get? a = some o ∧ o.ExactSet ∧ o.data = .set es ep t
  rows : es.toList = rws w L
  tab : TabOk t (L.map fun p => nh w p.2)
  nd : (L.map (·.2)).Nodup
  led : w.params.followText "set-order" = true ∨ t.led = true
  room : L.length * 5 < t.mask * 3
  few : L.length < 76
  tup : ∀ p ∈ L, TK h p.2 p.1
variable {a : Addr} {L : Es} {es : Array (Int × Value)} {ep : Nat} {t : SetTable}
theorem SetP.size {h : Heap} (R : SetP w h a L es ep t) : es.size = L.length := by
  have h := congrArg List.length R.rows
  unfold rws at h
  rw [Array.length_toList, List.length_map] at h
  exact h
theorem SetP.fits {h : Heap} (R : SetP w h a L es ep t) : t.fits es.size = true := by
  have h1 := R.tab.sz
  rw [List.length_map] at h1
  have h2 := R.size
  have h3 := R.room
  unfold SetTable.fits SetTable.fill
  rw [R.tab.dm, Bool.and_eq_true, beq_iff_eq, decide_eq_true_eq]
  show t.place.size = es.size ∧ t.place.size + 0 ≤ t.mask
  omega
theorem SetP.entry {h : Heap} (R : SetP w h a L es ep t) {i : Nat} {p : Value × NestedKey} (h : L[i]? = some p) : es[i]? = some (nh w p.2, p.1) := by
  rw [← Array.getElem?_toList, R.rows]
  unfold rws
  rw [List.getElem?_map, h] <;> rfl
theorem SetP.gw {h : Heap} (R : SetP w h a L es ep t) : ¬ t.gaveWay = true := by
  unfold SetTable.gaveWay
  rw [mask_odd R.tab.mok]
  decide
abbrev go0 (m : Nat) (h : Int) : SetTable.Probe := runAt m (SetTable.bits h % (m + 1)) (SetTable.bits h)
theorem nth_dm (m : Nat) : ∀ (n : Nat) (p : SetTable.Probe), p.dummy = none → (nth m p n).dummy = none
  | 0, _, h => h
  | n + 1, p, h => nth_dm m n (adv m p) (by unfold adv; split <;> exact h)
/-- the search, from the c-th step of the way on -/
theorem look (R : SetP w s.heap a L es ep t) {x : Value} {k : NestedKey} (hx : TK s.heap k x) (hu : A.units + 8 < cLine) {K : Nat} (hKf : K < 10 * SetTable.turns t.mask)
    (hK : way t.mask (nh w k) K ∉ t.place.toList) (hKb : ∀ c, c < K → way t.mask (nh w k) c ∈ t.place.toList) {Q : SetFound → Shared → Prop}
    (hin : k ∈ L.map (·.2) → Q (.there none) s) (hout : k ∉ L.map (·.2) → Q (.free (way t.mask (nh w k) K) false) s) :
    ∀ (f c : Nat) (stand : Option SetTable.Probe), stand.getD (t.probeStart (nh w k)) = nth t.mask (go0 t.mask (nh w k)) c → c ≤ K → K - c < f →
      (∀ (i : Nat) p, L[i]? = some p → p.2 = k → ∃ c', c ≤ c' ∧ c' < K ∧ t.place.toList[i]? = some (way t.mask (nh w k) c')) →
      wpAny (model P w) A (setSearchFrom a x (nh w k) true f stand) Q E s
  | 0, c, stand, _, _, hf, _ => absurd hf (Nat.not_lt_zero _)
  | f + 1, c, stand, hst, hc, hf, hre => by
    obtain ⟨o, ho, hex, hd⟩ := R.ob
    rw [setSearchFrom_succ]
    refine wpAny_bind (wpAny_setState_of ho hd R.fits ?_)
    dsimp only
    refine wp_if_neg R.gw ?_
    try refine wpAny_bind (wpAny_pure ?_)
    have hnd := nth_dm t.mask c (go0 t.mask (nh w k)) rfl
    have sh : ∀ q, nth t.mask (nth t.mask (go0 t.mask (nh w k)) c) q = nth t.mask (go0 t.mask (nh w k)) (c + q) := fun q => (nth_add t.mask c _ q).symm
    have e1 : ∀ q, (nth t.mask (nth t.mask (go0 t.mask (nh w k)) c) q).j = way t.mask (nh w k) (c + q) := fun q => congrArg SetTable.Probe.j (sh q)
    have spec := go_spec t R.tab.ris R.tab.dm (fun i => (es[i]?.map (·.1)).getD 0) (nh w k) (10 * SetTable.turns t.mask) (K - c) _ hnd (by omega)
      (fun q hq => by rw [e1]; exact hKb (c + q) (by omega)) (by rw [e1, show c + (K - c) = K by omega]; exact hK)
    have hashAt : ∀ (i : Nat) p, L[i]? = some p → (fun i => (es[i]?.map (·.1)).getD 0) i = nh w p.2 := fun i p hp => by
      show (es[i]?.map (·.1)).getD 0 = _
      rw [R.entry hp] <;> rfl
    rcases spec with ⟨q, i, hq, hi, hh, hno, hpr⟩ | ⟨hno, hpr⟩
    · have hpr' : t.probe (fun i => (es[i]?.map (·.1)).getD 0) (nh w k) (stand.getD (t.probeStart (nh w k))) = some (.candidate (way t.mask (nh w k) (c + q)) i (nth t.mask (go0 t.mask (nh w k)) (c + (q + 1)))) := by
        rw [hst, ← e1, ← sh]
        exact hpr
      rw [hpr']
      dsimp only
      rw [e1] at hi
      have hil : i < L.length := by
        have h1 : i < t.place.toList.length := (List.getElem?_eq_some_iff.mp hi).1
        have h2 := R.tab.sz
        rw [List.length_map] at h2
        rw [Array.length_toList] at h1
        omega
      have hp : L[i]? = some L[i] := List.getElem?_eq_getElem hil
      generalize hpe : L[i] = p at hp
      have hmem : p ∈ L := List.mem_of_getElem? hp
      have hpt := R.tup p hmem
      have rest : wpAny (model P w) A (searchRest a x (nh w k) true f es t (way t.mask (nh w k) (c + q)) i (nth t.mask (go0 t.mask (nh w k)) (c + (q + 1)))) Q E s := by
        unfold searchRest
        rw [R.entry hp]
        dsimp only
        refine wpAny_bind (wpAny_holding (eqAt_key p.2 k A s p.1 x hpt.is hx.is (by have := hpt.deep; omega) _ _ _ _ ?_))
        refine wpAny_bind (wpAny_setState_of ho hd R.fits ?_)
        dsimp only
        rw [← NestedKey.decide_eq]
        by_cases hkk : p.2 = k
        · refine wp_if_pos (by simp [hkk]) ?_
          refine wpAny_pure (hin ?_)
          exact List.mem_map.mpr ⟨p, hmem, hkk⟩
        · refine wp_if_neg (by simp [hkk]) ?_
          try refine wpAny_bind (wpAny_pure ?_)
          rw [sameMem]
          dsimp only
          have hsl : t.slot (way t.mask (nh w k) (c + q)) = .live i := slot_live R.tab.ris hi
          simp only [if_true, hsl, R.entry hp]
          obtain ⟨pb, epb⟩ := hpt.ref
          rw [epb]
          refine wpAny_bind (wpAny_isSame_ref_self (wpAny_bind (wpAny_pure ?_)))
          simp only [if_true]
          refine wp_if_neg (by simp [hkk]) ?_
          refine look R hx hu hKf hK hKb hin hout f (c + (q + 1)) _ rfl (by omega) (by omega) fun i0 p0 h0 hk0 => ?_
          obtain ⟨c', a1, a2, a3⟩ := hre i0 p0 h0 hk0
          refine ⟨c', ?_, a2, a3⟩
          rcases Nat.lt_or_ge c' (c + q) with z | z
          · exfalso
            refine hno (c' - c) i0 (by omega) (by rw [e1, show c + (c' - c) = c' by omega]; exact a3) ?_
            exact (hashAt i0 p0 h0).trans (congrArg (nh w) hk0)
          · rcases Nat.lt_or_ge (c + q) c' with y | y
            · omega
            · exfalso
              have ec : c' = c + q := Nat.le_antisymm y z
              rw [ec] at a3
              have s0 := slot_live R.tab.ris a3
              rw [hsl] at s0
              injection s0 with s0
              rw [← s0, hp] at h0
              exact hkk ((congrArg Prod.snd (Option.some.inj h0)).trans hk0)
      by_cases hl : t.led = true
      · refine wp_if_neg (by simp [hl]) ?_
        try refine wpAny_bind (wpAny_pure ?_)
        exact rest
      · refine wp_if_pos (by simp [hl]) ?_
        refine wpAny_bind (seen_key hx (fun y hy => ?_) ?_)
        · obtain ⟨e, he, ee⟩ := List.mem_map.mp hy
          have he1 : e ∈ es ∧ e.1 = nh w k := by simpa using he
          have he2 : e ∈ es.toList := by simpa using he1.1
          rw [R.rows] at he2
          obtain ⟨p2, hp2, e2⟩ := List.mem_map.mp he2
          refine ⟨p2.2, ?_⟩
          rw [← ee, ← e2]
          exact R.tup p2 hp2
        · refine wp_if_neg (by decide) ?_
          try refine wpAny_bind (wpAny_pure ?_)
          exact rest
    · have hpr' : t.probe (fun i => (es[i]?.map (·.1)).getD 0) (nh w k) (stand.getD (t.probeStart (nh w k))) = some (.empty (way t.mask (nh w k) K) none) := by
        have e2 : way t.mask (nh w k) K = (nth t.mask (nth t.mask (go0 t.mask (nh w k)) c) (K - c)).j := by
          rw [e1, show c + (K - c) = K by omega]
        rw [hst, e2]
        exact hpr
      rw [hpr']
      dsimp only
      refine wpAny_pure (hout fun hm => ?_)
      obtain ⟨p0, h0, hk0⟩ := List.mem_map.mp hm
      obtain ⟨i0, hi0, e0⟩ := List.getElem_of_mem h0
      have h00 : L[i0]? = some p0 := by rw [List.getElem?_eq_getElem hi0, e0]
      obtain ⟨c', a1, a2, a3⟩ := hre i0 p0 h00 hk0
      refine hno (c' - c) i0 (by omega) (by rw [e1, show c + (c' - c) = c' by omega]; exact a3) ?_
      exact (hashAt i0 p0 h00).trans (congrArg (nh w) hk0)
theorem look_at (R : SetP w s.heap a L es ep t) {x : Value} {k : NestedKey} (hx : TK s.heap k x) (hu : A.units + 8 < cLine) {Q : SetFound → Shared → Prop}
    (hin : k ∈ L.map (·.2) → Q (.there none) s)
    (hout : ∀ K, k ∉ L.map (·.2) → way t.mask (nh w k) K ∉ t.place.toList → (∀ c, c < K → way t.mask (nh w k) c ∈ t.place.toList) → Q (.free (way t.mask (nh w k) K) false) s) :
    wpAny (model P w) A (setSearch a x (nh w k) true) Q E s := by
  have hroom := R.room
  obtain ⟨K, hKf, hK, hKb⟩ := R.tab.first (by rw [List.length_map]; omega) (nh w k)
  have hbig : K < 100000 := by
    have : 10 * SetTable.turns t.mask ≤ 1420 := by
      unfold SetTable.turns
      rcases R.tab.mok with e | e | e <;> omega
    omega
  unfold setSearch
  refine look R hx hu hKf hK hKb hin (fun hn => hout K hn hK hKb) 100000 0 none rfl (Nat.zero_le _) (by omega) fun i p hp hk => ?_
  have hi : (L.map fun p => nh w p.2)[i]? = some (nh w k) := by rw [List.getElem?_map, hp, ← hk] <;> rfl
  have hil : i < t.place.toList.length := by
    have h1 : i < L.length := (List.getElem?_eq_some_iff.mp hp).1
    have h2 := R.tab.sz
    rw [List.length_map] at h2
    rw [Array.length_toList]
    omega
  have hj := List.getElem?_eq_getElem hil
  obtain ⟨c, hc, e⟩ := R.tab.before hK hi hj
  exact ⟨c, Nat.zero_le _, hc, by rw [hj, e]⟩
theorem rows_put' (L : Es) (p : Nat) (x : Value) (k : NestedKey) : rws w (L.take p ++ (x, k) :: L.drop p) = (rws w L).take p ++ (nh w k, x) :: (rws w L).drop p := by
  unfold rws
  rw [List.map_append, List.map_cons, List.map_take, List.map_drop]
theorem range_get {α : Type} (L : List α) : (List.range L.length).filterMap (fun i => L[i]?) = L := by
  have key2 : ∀ n, n ≤ L.length → (List.range n).filterMap (fun i => L[i]?) = L.take n := by
    intro n
    induction n with
    | zero => intro _; rfl
    | succ n ih =>
      intro hn
      have hlt : n < L.length := hn
      rw [List.range_succ, List.filterMap_append, ih (Nat.le_of_lt hlt), List.take_succ, List.getElem?_eq_getElem hlt]
      rw [List.filterMap_cons_some (List.getElem?_eq_getElem hlt)] <;> rfl
  rw [key2 L.length (Nat.le_refl _), List.take_length]
theorem order_rows' (L : Es) (es : Array (Int × Value)) (order : Array Nat) (hr : es.toList = rws w L) (hp : order.toList.Perm (List.range L.length)) :
    ∃ L2, (order.filterMap (es[·]?)).toList = rws w L2 ∧ L2.Perm L ∧ (L2.map fun p => nh w p.2) = order.toList.map fun i => (es.map (·.1)).getD i 0 := by
  have ent : ∀ i (h : i < L.length), es[i]? = some (nh w (L[i]).2, (L[i]).1) := fun i h => by
    rw [← Array.getElem?_toList, hr]
    unfold rws
    rw [List.getElem?_map, List.getElem?_eq_getElem h] <;> rfl
  have key : ∀ l : List Nat, (∀ i ∈ l, i < L.length) → ∃ L2 : Es, l.filterMap (fun i => es[i]?) = rws w L2 ∧ L2 = l.filterMap (fun i => L[i]?) ∧ (L2.map fun p => nh w p.2) = l.map fun i => (es.map (·.1)).getD i 0 := by
    intro l
    induction l with
    | nil => intro _; exact ⟨[], rfl, rfl, rfl⟩
    | cons i l ih =>
      intro hl
      have hi := hl i List.mem_cons_self
      obtain ⟨L2, e1, e2, e3⟩ := ih fun j hj => hl j (List.mem_cons_of_mem _ hj)
      refine ⟨L[i] :: L2, ?_, ?_, ?_⟩
      · rw [List.filterMap_cons_some (ent i hi), e1] <;> rfl
      · rw [List.filterMap_cons_some (List.getElem?_eq_getElem hi), e2]
      · rw [List.map_cons, List.map_cons, e3]
        have e4 : (es.map (·.1)).getD i 0 = nh w (L[i]).2 := by
          have e5 : (es.map (·.1))[i]? = some (nh w (L[i]).2) := by rw [Array.getElem?_map, ent i hi] <;> rfl
          simp [Array.getD_eq_getD_getElem?, e5]
        rw [e4]
  obtain ⟨L2, e1, e2, e3⟩ := key order.toList fun i hi => List.mem_range.mp (hp.mem_iff.mp hi)
  refine ⟨L2, by first | (rw [Array.toList_filterMap]; exact e1) | simpa using e1, ?_, e3⟩
  have h1 : L2.Perm ((List.range L.length).filterMap fun i => L[i]?) := by
    rw [e2]
    exact hp.filterMap _
  rw [range_get] at h1
  exact h1
theorem relay_at' {o : Obj} (ho : s.heap.get? a = some o) (hex : o.ExactSet) (hd : o.data = .set es ep t) (hrows : es.toList = rws w L) (hsz : t.place.size = es.size) (hdm : t.dummies = #[]) (hfl : es.size ≤ t.mask)
    (nd : (L.map (·.2)).Nodup) (tup : ∀ p ∈ L, TK s.heap p.2 p.1) (ld : w.params.followText "set-order" = true ∨ t.led = true) (few : L.length < 76) {wanted M : Nat}
    (hw : SetTable.sizeAbove wanted - 1 = M) (hM : MaskOk M) (hw2 : SetTable.sizeAbove wanted ≤ 128) (hn : L.length * 5 < M * 3) {Q : Unit → Shared → Prop}
    (hQ : ∀ h' L' es' ep' t', Heap.SameBut a s.heap h' → SetP w h' a L' es' ep' t' → L'.Perm L → Q () { s with heap := h' }) : wpAny (model P w) A (setRelay a wanted) Q E s := by
  have hsl : es.size = L.length := by
    have h := congrArg List.length hrows
    unfold rws at h
    rw [Array.length_toList, List.length_map] at h
    exact h
  have hfits : t.fits es.size = true := by
    unfold SetTable.fits SetTable.fill
    rw [hdm, Bool.and_eq_true, beq_iff_eq, decide_eq_true_eq]
    show t.place.size = es.size ∧ t.place.size + 0 ≤ t.mask
    omega
  obtain ⟨t', order, e, hp, T, em, el, ep', ed⟩ := relaid_ok t (hs := es.map (·.1)) (wanted := wanted) hw hM (by rw [Array.size_map, hsl]; omega)
  rw [Array.size_map, hsl] at hp
  obtain ⟨L2, r1, r2, r3⟩ := order_rows' L es order hrows hp
  rw [← r3] at T
  have hs2 : (order.filterMap (es[·]?)).size = es.size := by
    have h := congrArg List.length r1
    unfold rws at h
    rw [Array.length_toList, List.length_map, r2.length_eq] at h
    rw [h, hsl]
  rw [setRelay_eq]
  refine wpAny_bind (wpAny_setState_of ho hd hfits ?_)
  dsimp only
  refine wp_if_neg (by rw [sizeLine_eq]; omega) ?_
  try refine wpAny_bind (wpAny_pure ?_)
  rw [e]
  dsimp only
  refine wpAny_bind ?_
  refine wp_if_neg (by rw [hs2]; simp) ?_
  try refine wpAny_bind (wpAny_pure ?_)
  refine wpAny_pure ?_
  dsimp only
  refine wpAny_storeSet_of ho hd ?_ (by rw [hs2, hsl, sizeLine_eq]; omega)
  have sb : Heap.SameBut a s.heap (s.heap.update a (Obj.putSet (order.filterMap (es[·]?)) t')) := Heap.SameBut.update ..
  refine hQ _ L2 (order.filterMap (es[·]?)) (ep + 1) t' sb ?_ r2
  refine ⟨⟨_, store_at ho hd, ⟨hex.1, hex.2.1, hex.2.2⟩, rfl⟩, r1, T, ?_, by rw [el]; exact ld, ?_, by rw [r2.length_eq]; exact few, fun p hpm => (tup p (r2.mem_iff.mp hpm)).same ho hd sb⟩
  · exact (r2.map (·.2)).nodup_iff.mpr nd
  · rw [r2.length_eq, em]
    exact hn
/-- adding -/
theorem addP (R : SetP w s.heap a L es ep t) {x : Value} {k : NestedKey} (hx : TK s.heap k x) (hu : A.units + 8 < cLine) (hfew : L.length + 1 < 76) {Q : Bool → Shared → Prop}
    (hQ : ∀ b h' L' es' ep' t', Heap.SameBut a s.heap h' → SetP w h' a L' es' ep' t' → (k ∈ L.map (·.2) → L' = L) → (k ∉ L.map (·.2) → L'.Perm ((x, k) :: L)) → Q b { s with heap := h' }) :
    wpAny (model P w) A (setAddHashed a x (nh w k)) Q E s := by
  obtain ⟨o, ho, hex, hd⟩ := R.ob
  have hsl := R.size
  have hroom := R.room
  obtain ⟨xb, exb⟩ := hx.ref
  unfold setAddHashed
  refine wpAny_holding ?_
  rw [show (100000 : Nat) = 99999 + 1 from rfl, setAddHashedIn_succ]
  refine wpAny_bind (wpAny_setState_of ho hd R.fits ?_)
  dsimp only
  refine wp_if_neg (by rw [exb]; simp [byScan, Value.scannable]) ?_
  try refine wpAny_bind (wpAny_pure ?_)
  refine wpAny_bind (look_at R hx hu (fun hm => ?_) fun K hm hK hb => ?_)
  · dsimp only
    exact wpAny_pure (hQ false s.heap L es ep t (Heap.SameBut.refl a s.heap) R (fun _ => rfl) fun z => absurd hm z)
  · dsimp only
    refine wpAny_bind (wpAny_setState_of ho hd R.fits ?_)
    dsimp only
    obtain ⟨q1, q2, q3, q4, q5, q6, q7, q8, q9⟩ := R.tab.put hK hb
    generalize hpt : t.put (way t.mask (nh w k) K) = pt at q1 q3 q4 q5 q6 q7 q8 q9 ⊢
    obtain ⟨t1, p⟩ := pt
    dsimp only at q1 q3 q4 q5 q6 q7 q8 q9 ⊢
    subst q1
    have hin : (SetTable.insertAt es (SetTable.below t.place (way t.mask (nh w k) K)) (nh w k, x)).toList = rws w (L.take (SetTable.below t.place (way t.mask (nh w k) K)) ++ (x, k) :: L.drop (SetTable.below t.place (way t.mask (nh w k) K))) := by
      rw [SetTable.toList_insertAt, rows_put', R.rows]
    generalize hpp : SetTable.below t.place (way t.mask (nh w k) K) = p at q2 q3 hin ⊢
    have pm := put_perm L p (x, k)
    have hlen : (L.take p ++ (x, k) :: L.drop p).length = L.length + 1 := pm.length_eq
    have hhs : (L.take p ++ (x, k) :: L.drop p).map (fun p => nh w p.2) = (L.map fun p => nh w p.2).take p ++ nh w k :: (L.map fun p => nh w p.2).drop p := by
      rw [List.map_append, List.map_cons, List.map_take, List.map_drop]
    rw [← hhs] at q3
    have nd1 : ((L.take p ++ (x, k) :: L.drop p).map (·.2)).Nodup := by
      refine (pm.map (·.2)).nodup_iff.mpr ?_
      rw [List.map_cons]
      exact List.nodup_cons.mpr ⟨hm, R.nd⟩
    have hes : (SetTable.insertAt es p (nh w k, x)).size = L.length + 1 := by
      have h := congrArg List.length hin
      unfold rws at h
      rw [Array.length_toList, List.length_map, hlen] at h
      exact h
    generalize SetTable.insertAt es p (nh w k, x) = es1 at hin hes ⊢
    generalize L.take p ++ (x, k) :: L.drop p = L1 at pm hlen q3 nd1 hin
    have fin : ∀ (t2 : SetTable), t2.place = t1.place → t2.dummies = t1.dummies → t2.mask = t1.mask → t2.led = t1.led → wpAny (model P w) A (do
        storeSet a es1 t2
        if (!false && t2.tooFull) = true then do setRelay a (SetTable.grown (es.size + 1)); pure true else pure true) Q E s := by
      intro t2 f1 f2 f3 f4
      have tb : TabOk t2 (L1.map fun p => nh w p.2) := ⟨by rw [f1]; exact q3.ris, by rw [f2]; exact q3.dm, by rw [f1]; exact q3.sz, by rw [f3]; exact q3.mok, by rw [f1, f3]; exact q3.bd, by rw [f1, f3]; exact q3.reach⟩
      have hfill : t2.fill = t1.fill := by unfold SetTable.fill; rw [f1, f2]
      refine wpAny_bind (wpAny_storeSet_of ho hd ?_ (by rw [hes, sizeLine_eq]; omega))
      have sb : Heap.SameBut a s.heap (s.heap.update a (Obj.putSet es1 t2)) := Heap.SameBut.update ..
      have ho1 := store_at (es' := es1) (t' := t2) ho hd
      generalize s.heap.update a (Obj.putSet es1 t2) = h1 at sb ho1 ⊢
      have tup1 : ∀ p ∈ L1, TK h1 p.2 p.1 := fun p hp => by
        rcases List.mem_cons.mp (pm.mem_iff.mp hp) with e | hp
        · rw [e]; exact hx.same ho hd sb
        · exact (R.tup p hp).same ho hd sb
      have ld1 : w.params.followText "set-order" = true ∨ t2.led = true := by rw [f4, q5]; exact R.led
      have tf : t2.tooFull = t1.tooFull := by unfold SetTable.tooFull; rw [hfill, f3]
      by_cases hf : t1.tooFull = true
      · rw [if_pos (by rw [tf]; simp [hf])]
        refine wpAny_bind ?_
        have hfull : (L.length + 1) * 5 ≥ t1.mask * 3 := by
          have h := hf
          unfold SetTable.tooFull at h
          rw [decide_eq_true_eq, q9, List.length_map] at h
          exact h
        rw [hsl]
        have hsz1 : t2.place.size = es1.size := by
          have h := tb.sz
          rw [List.length_map, hlen] at h
          rw [h, hes]
        have cases2 : (t.mask = 7 ∧ L.length = 4) ∨ (t.mask = 31 ∧ L.length = 18) := by
          rcases R.tab.mok with e | e | e
          · left; rw [q4, e] at hfull; rw [e] at hroom; exact ⟨e, by omega⟩
          · right; rw [q4, e] at hfull; rw [e] at hroom; exact ⟨e, by omega⟩
          · exfalso; rw [q4, e] at hfull; omega
        have go : ∀ M, SetTable.sizeAbove (SetTable.grown (L.length + 1)) - 1 = M → MaskOk M → SetTable.sizeAbove (SetTable.grown (L.length + 1)) ≤ 128 → (L.length + 1) * 5 < M * 3 →
            wpAny (model P w) A (setRelay a (SetTable.grown (L.length + 1))) (fun _ s' => wpAny (model P w) A (pure true) Q E s') E { s with heap := h1 } := fun M h1' h2' h3' h4' => by
          refine relay_at' (s := { s with heap := h1 }) ho1 ⟨hex.1, hex.2.1, hex.2.2⟩ rfl hin hsz1 tb.dm (by rw [hes, f3, q4]; rcases cases2 with ⟨e, e2⟩ | ⟨e, e2⟩ <;> omega) nd1 tup1 ld1 (by rw [hlen]; exact hfew) h1' h2' h3' (by rw [hlen]; exact h4') ?_
          intro h2 L2 es2 ep2 t3 sb2 R2 pm2
          refine wpAny_pure (hQ true h2 L2 es2 ep2 t3 (sb.trans sb2) R2 (fun z => absurd z hm) fun _ => pm2.trans pm)
        rcases cases2 with ⟨_, e2⟩ | ⟨_, e2⟩
        · refine go 31 (by rw [e2, size_20]) (.inr (.inl rfl)) (by rw [e2, size_20]; decide) (by omega)
        · refine go 127 (by rw [e2, size_76]) (.inr (.inr rfl)) (by rw [e2, size_76]; decide) (by omega)
      · rw [if_neg (by rw [tf]; simp [hf])]
        refine wpAny_pure (hQ true h1 L1 es1 (ep + 1) t2 sb ⟨⟨_, ho1, ⟨hex.1, hex.2.1, hex.2.2⟩, rfl⟩, hin, tb, nd1, ld1, ?_, by rw [hlen]; exact hfew, tup1⟩ (fun z => absurd z hm) fun _ => pm)
        have h := hf
        unfold SetTable.tooFull at h
        rw [decide_eq_true_eq, q9, List.length_map] at h
        rw [hlen, f3]
        omega
    have two : ∀ b : Bool, wpAny (model P w) A (do
        storeSet a es1 (if b = true then t1 else { t1 with plain := false })
        if (!false && (if b = true then t1 else { t1 with plain := false }).tooFull) = true then do setRelay a (SetTable.grown (es.size + 1)); pure true else pure true) Q E s := by
      intro b
      cases b
      · exact fin { t1 with plain := false } rfl rfl rfl rfl
      · exact fin t1 rfl rfl rfl rfl
    split
    · exact wpAny_bind (hashBy_key k x 8 A E _ hx.is two)
    · exact wpAny_bind (wpAny_pure (two true))
/-- a key that is carried by value: a whole number or a text -/
inductive BK : NestedKey → Value → Prop
  | int (i : Int) (t : Tok) : BK (.num i) (.int i t)
  | text (x : Str) (t : Tok) : BK (.text x) (.str x t)
def kx : NestedKey → Key
  | .num i => .inl i
  | .text x => .inr x
  | _ => .inl 0
theorem BK.mix {k : NestedKey} {v : Value} (b : BK k v) : (mixKind P w).is (kx k) v = true := by
  cases b with
  | int i t => exact mixKind_int P w i t
  | text x t => exact mixKind_str P w x t
theorem BK.hash {k : NestedKey} {v : Value} (b : BK k v) : nh w k = (mixKind P w).hash (kx k) := by
  cases b <;> rfl
theorem BK.sc {k : NestedKey} {v : Value} (b : BK k v) : v.scannable = true := by
  cases b <;> rfl
theorem BK.nested {k : NestedKey} {v : Value} (b : BK k v) (h : Heap) : NestedIs h k v := by
  cases b with
  | int i t => exact .int i t
  | text x t => exact .text x t
theorem BK.iff {k k' : NestedKey} {v v' : Value} (b : BK k v) (b' : BK k' v') : (mixKind P w).is (kx k) v' = true ↔ k' = k := by
  rw [mixKind_is]
  cases b with
  | int i t =>
    cases b' with
    | int j u =>
      show (keyIs (.inl i) (.int j u) = true) ↔ _
      constructor
      · intro z
        have z : (j == i) = true := z
        rw [beq_iff_eq] at z
        rw [z]
      · intro z
        cases z
        exact keyIs_int i u
    | text y u => exact ⟨fun z => (by cases z), fun z => (by cases z)⟩
  | text x t =>
    cases b' with
    | int j u => exact ⟨fun z => (by cases z), fun z => (by cases z)⟩
    | text y u =>
      constructor
      · intro z
        have z : (y == x) = true := z
        rw [beq_iff_eq] at z
        rw [z]
      · intro z
        cases z
        exact keyIs_str x u
structure SetS (w : World) (h : Heap) (a : Addr) (L : Es) (es : Array (Int × Value)) (ep : Nat) (t : SetTable) : Prop where
  ob : ∃ o, h.get? a = some o ∧ o.ExactSet ∧ o.data = .set es ep t
  rows : es.toList = rws w L
  nd : (L.map (·.2)).Nodup
  led : w.params.followText "set-order" = true ∨ t.led = true
  fits : t.fits es.size = true
  ris : Ris t.place.toList
  few : L.length < 76
  bk : ∀ p ∈ L, BK p.2 p.1
theorem rws_len {L : Es} {es : Array (Int × Value)} (h : es.toList = rws w L) : es.size = L.length := by
  have h := congrArg List.length h
  unfold rws at h
  rw [Array.length_toList, List.length_map] at h
  exact h
theorem elems_of {L : Es} (h : ∀ p ∈ L, BK p.2 p.1) : ElemsOf (mixKind P w) (rws w L) := fun e he => by
  obtain ⟨p, hp, rfl⟩ := List.mem_map.mp he
  exact ⟨⟨kx p.2, (h p hp).mix, (h p hp).hash⟩, (h p hp).sc⟩
theorem perm_rows {l : List (Int × Value)} {L : Es} (h : l.Perm (rws w L)) : ∃ L2, l = rws w L2 ∧ L2.Perm L := by
  have : ∀ (l m : List (Int × Value)), l.Perm m → ∀ L, m = rws w L → ∃ L2, l = rws w L2 ∧ L2.Perm L := by
    intro l m h
    induction h with
    | nil => intro L e; exact ⟨L, e, .refl _⟩
    | @cons x l m _ ih =>
      intro L e
      cases L with
      | nil => cases e
      | cons p L =>
        injection e with e1 e2
        obtain ⟨L2, a, b⟩ := ih L e2
        exact ⟨p :: L2, by rw [a, e1]; rfl, b.cons p⟩
    | swap x y l =>
      intro L e
      match L, e with
      | p :: q :: L, e =>
        injection e with e1 e2
        injection e2 with e2 e3
        exact ⟨q :: p :: L, by rw [e1, e2, e3]; rfl, .swap _ _ _⟩
    | trans _ _ ih1 ih2 =>
      intro L e
      obtain ⟨L2, a, b⟩ := ih2 L e
      obtain ⟨L3, c, d⟩ := ih1 L2 a
      exact ⟨L3, c, d.trans b⟩
  exact this l _ h L rfl
theorem addS_tail {g : Bool → Sem Unit} (hg : ∀ (b : Bool) (s₁ : Shared) (Q' : Unit → Shared → Prop), Q' () s₁ → wpAny (model P w) A (g b) Q' E s₁)
    {o : Obj} {es : Array (Int × Value)} {ep : Nat} {t : SetTable} (ho : s.heap.get? a = some o) (hex : o.ExactSet) (hd : o.data = .set es ep t)
    {es1 : Array (Int × Value)} {t2 : SetTable} {L1 : Es} (r1 : es1.toList = rws w L1) (nd1 : (L1.map (·.2)).Nodup) (b1 : ∀ p ∈ L1, BK p.2 p.1) (few : L1.length < 76)
    (hf2 : t2.fits es1.size = true) (hr : Ris t2.place.toList) (hl : w.params.followText "set-order" = true ∨ t2.led = true) {wasDummy : Bool} {R : Option Bool → Shared → Prop}
    (hR : ∀ h' L' es' ep' t', Heap.SameBut a s.heap h' → SetS w h' a L' es' ep' t' → L'.Perm L1 → R (some true) { s with heap := h' }) :
    wpAny (model P w) A (do
        storeSet a es1 t2
        if (!wasDummy && t2.tooFull) = true then do
            g (relayAll t2 es1 (SetTable.grown es1.size)).2.2
            storeSet a (relayAll t2 es1 (SetTable.grown es1.size)).1 (relayAll t2 es1 (SetTable.grown es1.size)).2.1
            pure (some true)
          else pure (some true)) R E s := by
  have hs1 : es1.size = L1.length := rws_len r1
  have hb1 : es1.size < scanBound := by rw [hs1]; unfold scanBound; omega
  refine wpAny_bind (wpAny_storeSet_of ho hd ?_ (fits_of_scanBound hb1))
  have ho1 := store_at (es' := es1) (t' := t2) ho hd
  have sb1 := Heap.SameBut.update s.heap a (Obj.putSet es1 t2)
  split
  · have pm := relayAll_perm t2 es1 (SetTable.grown es1.size)
    have hf3 := relayAll_fits t2 es1 (SetTable.grown es1.size)
    have hr3 := relayAll_ris t2 es1 (SetTable.grown es1.size)
    have hl3 := relayAll_led t2 es1 (SetTable.grown es1.size)
    generalize relayAll t2 es1 (SetTable.grown es1.size) = Z at pm hf3 hr3 hl3 ⊢
    obtain ⟨es2, t3, gave⟩ := Z
    dsimp only at pm hf3 hr3 hl3 ⊢
    rw [r1] at pm
    obtain ⟨L2, e2, p2⟩ := perm_rows pm
    have hb2 : es2.size < scanBound := by rw [rws_len e2, p2.length_eq]; unfold scanBound; omega
    refine wpAny_bind (hg _ _ _ ?_)
    refine wpAny_bind (wpAny_storeSet_of ho1 rfl ?_ (fits_of_scanBound hb2))
    have ho2 := store_at (es' := es2) (t' := t3) ho1 rfl
    refine wpAny_pure (hR _ L2 es2 (ep + 1 + 1) t3 (sb1.trans (Heap.SameBut.update _ a _)) ?_ p2)
    exact ⟨⟨_, ho2, hex, rfl⟩, e2, (p2.map (·.2)).nodup_iff.mpr nd1, hl.imp id fun z => (by rw [hl3]; exact z), hf3, hr3, by rw [p2.length_eq]; exact few, fun p hp => b1 p (p2.mem_iff.mp hp)⟩
  · exact wpAny_pure (hR _ L1 es1 (ep + 1) t2 sb1 ⟨⟨_, ho1, hex, rfl⟩, r1, nd1, hl, hf2, hr, few, b1⟩ (.refl _))
theorem addS (R : SetS w s.heap a L es ep t) {x : Value} {k : NestedKey} (hx : BK k x) (hfew : L.length + 1 < 76) {Q : Bool → Shared → Prop}
    (hQ : ∀ b h' L' es' ep' t', Heap.SameBut a s.heap h' → SetS w h' a L' es' ep' t' → (k ∈ L.map (·.2) → L' = L) → (k ∉ L.map (·.2) → L'.Perm ((x, k) :: L)) → Q b { s with heap := h' }) :
    wpAny (model P w) A (setAddHashed a x (nh w k)) Q E s := by
  obtain ⟨o, ho, hex, hd⟩ := R.ob
  have hsc := hx.sc
  have hel : ElemsOf (mixKind P w) es.toList := by rw [R.rows]; exact elems_of R.bk
  have hb : es.size < scanBound := by rw [rws_len R.rows]; unfold scanBound; omega
  have hf := R.fits
  unfold setAddHashed setAddHashedIn
  refine wpAny_holding (wpAny_bind (wpAny_setState_of ho hd hf ?_))
  dsimp only
  rw [byScan_of hsc hb hel]
  simp only [↓reduceIte]
  unfold setAddByScan
  refine wpAny_bind ?_
  refine wpAny_bind (wpAny_rule ?_)
  rw [hx.hash (P := P)]
  refine wpAny_bind (wpAny_setScan_of hx.mix ho hd hf hel ?_)
  rw [← hx.hash (P := P)]
  have hm : k ∈ L.map (·.2) ↔ ∃ e ∈ es.toList, (mixKind P w).is (kx k) e.2 = true := by
    rw [R.rows, List.mem_map]
    constructor
    · rintro ⟨p, hp, e⟩
      exact ⟨_, List.mem_map.mpr ⟨p, hp, rfl⟩, (hx.iff (R.bk p hp)).mpr e⟩
    · rintro ⟨e, he, q⟩
      obtain ⟨p, hp, rfl⟩ := List.mem_map.mp he
      exact ⟨p, hp, (hx.iff (R.bk p hp)).mp q⟩
  cases hfi : List.findIdx? (fun e => (mixKind P w).is (kx k) e.2) es.toList with
  | some j =>
    dsimp only
    obtain ⟨hj, pj, _⟩ := List.findIdx?_eq_some_iff_getElem.mp hfi
    have hk : k ∈ L.map (·.2) := hm.mpr ⟨es.toList[j], List.getElem_mem hj, pj⟩
    exact wpAny_pure (wpAny_pure (hQ false s.heap L es ep t (Heap.SameBut.refl a s.heap) R (fun _ => rfl) fun z => absurd hk z))
  | none =>
    dsimp only
    have hnk : k ∉ L.map (·.2) := fun z => by
      obtain ⟨e, he, q⟩ := hm.mp z
      have c := List.findIdx?_eq_none_iff.mp hfi e he
      rw [q] at c
      cases c
    have hgw : ∀ (b : Bool) {s₁ : Shared} {Q' : Unit → Shared → Prop}, Q' () s₁ → wpAny (model P w) A (match b with | true => rule "set.scan.the-table-gave-way" | false => pure ()) Q' E s₁ :=
      fun b s₁ Q' q => by cases b <;> first | exact wpAny_pure q | exact wpAny_rule q
    have pm := layNew_perm t es (nh w k) x
    have hf1 := layNew_fits t es (nh w k) x
    have hr1 := layNew_ris t es (nh w k) x R.ris
    have hl1 := layNew_led t es (nh w k) x
    generalize layNew t es (nh w k) x = Z at pm hf1 hr1 hl1 ⊢
    obtain ⟨es1, t1, wasDummy, gave⟩ := Z
    dsimp only at pm hf1 hr1 hl1 ⊢
    rw [Array.toList_push] at pm
    have pc : es1.toList.Perm (rws w ((x, k) :: L)) := by
      refine (pm.trans (List.perm_append_singleton _ _)).trans ?_
      rw [R.rows]
      exact .refl _
    obtain ⟨L1, r1, p1⟩ := perm_rows pc
    have nd1 : (L1.map (·.2)).Nodup := (p1.map (·.2)).nodup_iff.mpr (List.nodup_cons.mpr ⟨hnk, R.nd⟩)
    have b1 : ∀ p ∈ L1, BK p.2 p.1 := fun p hp => by
      rcases List.mem_cons.mp (p1.mem_iff.mp hp) with z | z
      · rw [z]; exact hx
      · exact R.bk p z
    have f1 : L1.length < 76 := by rw [p1.length_eq]; exact hfew
    have hled : w.params.followText "set-order" = true ∨ t1.led = true := R.led.imp id fun z => by rw [hl1]; exact z
    have fin : ∀ h' L' es' ep' t', Heap.SameBut a s.heap h' → SetS w h' a L' es' ep' t' → L'.Perm L1 → Q true { s with heap := h' } := fun h' L' es' ep' t' sb r pp =>
      hQ true h' L' es' ep' t' sb r (fun z => absurd z hnk) fun _ => pp.trans p1
    refine wpAny_bind (hgw _ ?_)
    split
    · refine wpAny_bind ?_
      refine hashBy_key k x 8 A E _ (hx.nested _) fun bb => ?_
      refine addS_tail ?_ ho hex hd r1 nd1 b1 f1 ?_ ?_ ?_ ?_
      · intro b s₁ Q' q; cases b <;> first | exact wpAny_pure q | exact wpAny_rule q
      · first | (split <;> first | exact hf1 | exact SetTable.fits_plain_off hf1) | exact hf1
      · first | (split <;> exact hr1) | exact hr1
      · first | (split <;> exact hled) | exact hled
      · intro h' L' es' ep' t' sb r pp; dsimp only; exact wpAny_pure (fin h' L' es' ep' t' sb r pp)
    · refine wpAny_bind (wpAny_pure ?_)
      simp only [↓reduceIte]
      refine addS_tail ?_ ho hex hd r1 nd1 b1 f1 hf1 hr1 hled ?_
      · intro b s₁ Q' q; cases b <;> first | exact wpAny_pure q | exact wpAny_rule q
      · intro h' L' es' ep' t' sb r pp; dsimp only; exact wpAny_pure (fin h' L' es' ep' t' sb r pp)
end
end PLS

/-! Sets of keys: set(xs), sorted of a set, len of a set. -/
namespace PLS
open PySem PySem.Spec PyProof.Rows L2
open PySem.W (dataLe dataLt alike AllAlike EachIs)
def KM (m : Bool) (h : Heap) (k : NestedKey) (v : Value) : Prop := match m with
  | true => TK h k v
  | false => BK k v
def SM (m : Bool) (w : World) (h : Heap) (a : Addr) (L : Es) : Prop := match m with
  | true => ∃ es ep t, SetP w h a L es ep t
  | false => ∃ es ep t, SetS w h a L es ep t
section
variable {P : Program} {w : World} {A : Around} {E : Value → Shared → Prop} {s : Shared} {m : Bool} {a : Addr} {L : Es}
theorem KM.keep {h h' : Heap} {k : NestedKey} {v : Value} (x : KM m h k v) (hk : ∀ a o, h.get? a = some o → h'.get? a = some o) : KM m h' k v := by
  cases m with
  | true => exact TK.keep x fun a o _ _ e _ => hk a o e
  | false => exact x
theorem KM.nested {h : Heap} {k : NestedKey} {v : Value} (x : KM m h k v) : NestedIs h k v ∧ k.depth ≤ 8 := by
  cases m with
  | true => exact ⟨TK.is x, TK.deep x⟩
  | false => exact ⟨BK.nested x h, by cases (show BK k v from x) <;> (rw [NestedKey.depth]; omega)⟩
theorem SM.keep {h h' : Heap} (R : SM m w h a L) (ha : ∀ o, h.get? a = some o → h'.get? a = some o) (ht : ∀ p ∈ L, KM m h' p.2 p.1) : SM m w h' a L := by
  cases m with
  | true =>
    obtain ⟨es, ep, t, R⟩ := R
    obtain ⟨o, ho, r⟩ := R.ob
    exact ⟨es, ep, t, ⟨o, ha o ho, r⟩, R.rows, R.tab, R.nd, R.led, R.room, R.few, ht⟩
  | false =>
    obtain ⟨es, ep, t, R⟩ := R
    obtain ⟨o, ho, r⟩ := R.ob
    exact ⟨es, ep, t, ⟨o, ha o ho, r⟩, R.rows, R.nd, R.led, R.fits, R.ris, R.few, R.bk⟩
theorem SM.ob {h : Heap} (R : SM m w h a L) : ∃ o es ep t, h.get? a = some o ∧ o.ExactSet ∧ o.data = .set es ep t ∧ t.fits es.size = true ∧ Ris t.place.toList ∧ (w.params.followText "set-order" = true ∨ t.led = true) ∧ es.toList = rws w L ∧ L.length < 76 ∧ (L.map (·.2)).Nodup := by
  cases m with
  | true =>
    obtain ⟨es, ep, t, R⟩ := R
    obtain ⟨o, ho, hx, hd⟩ := R.ob
    exact ⟨o, es, ep, t, ho, hx, hd, R.fits, R.tab.ris, R.led, R.rows, R.few, R.nd⟩
  | false =>
    obtain ⟨es, ep, t, R⟩ := R
    obtain ⟨o, ho, hx, hd⟩ := R.ob
    exact ⟨o, es, ep, t, ho, hx, hd, R.fits, R.ris, R.led, R.rows, R.few, R.nd⟩
theorem sm_fresh (m : Bool) {h : Heap} {a : Addr} (ho : h.get? a = some { cls := .type "set", dict := none, data := .set #[] 0 (.fresh 0 0 (!w.params.followText "set-order")) }) : SM m w h a [] := by
  have ld : w.params.followText "set-order" = true ∨ (!w.params.followText "set-order") = true := by
    cases w.params.followText "set-order"
    · exact .inr rfl
    · exact .inl rfl
  cases m with
  | true =>
    refine ⟨#[], 0, _, ⟨_, ho, ⟨rfl, rfl, rfl⟩, rfl⟩, rfl, ⟨List.Pairwise.nil, rfl, rfl, .inl rfl, fun x hx => (by cases hx), fun i h j hi => (by simp at hi)⟩, List.nodup_nil, ld, ?_, by decide, fun p hp => (by cases hp)⟩
    show 0 * 5 < 7 * 3
    decide
  | false => exact ⟨#[], 0, _, ⟨_, ho, ⟨rfl, rfl, rfl⟩, rfl⟩, rfl, List.nodup_nil, ld, by rfl, List.Pairwise.nil, by decide, fun p hp => (by cases hp)⟩
theorem addM (R : SM m w s.heap a L) {x : Value} {k : NestedKey} (hx : KM m s.heap k x) (hu : A.units + 8 < cLine) (hfew : L.length + 1 < 76) {Q : Bool → Shared → Prop}
    (hQ : ∀ b h' L' tk, s.toks ≤ tk → Heap.SameBut a s.heap h' → SM m w h' a L' → (k ∈ L.map (·.2) → L' = L) → (k ∉ L.map (·.2) → L'.Perm ((x, k) :: L)) → Q b { s with heap := h', toks := tk }) :
    wpAny (model P w) A (setAdd a x) Q E s := by
  unfold setAdd
  refine wpAny_holding ?_
  obtain ⟨hn, hd⟩ := hx.nested
  refine wpAny_bind (pyHash_key k x A s _ hn (by omega) ?_)
  have hx' : KM m ({ s with toks := s.toks + k.draws } : Shared).heap k x := hx
  cases m with
  | true =>
    obtain ⟨es, ep, t, R⟩ := R
    exact addP (s := { s with toks := s.toks + k.draws }) R hx' hu hfew fun b h' L' es' ep' t' sb r c1 c2 => hQ b h' L' _ (Nat.le_add_right _ _) sb ⟨es', ep', t', r⟩ c1 c2
  | false =>
    obtain ⟨es, ep, t, R⟩ := R
    exact addS (s := { s with toks := s.toks + k.draws }) R hx' hfew fun b h' L' es' ep' t' sb r c1 c2 => hQ b h' L' _ (Nat.le_add_right _ _) sb ⟨es', ep', t', r⟩ c1 c2
/-- what the set has got from the first i items -/
structure GotM (ks : Es) (i : Nat) (L : Es) : Prop where
  sub : ∀ p ∈ L, p ∈ ks.take i
  all : ∀ p ∈ ks.take i, p.2 ∈ L.map (·.2)
theorem GotM.zero (ks : Es) : GotM ks 0 [] := ⟨fun p h => (by cases h), fun p h => (by simp at h)⟩
theorem GotM.same {ks L : Es} {i : Nat} {x : Value × NestedKey} (g : GotM ks i L) (h : ks[i]? = some x) (hm : x.2 ∈ L.map (·.2)) : GotM ks (i + 1) L := by
  refine ⟨fun p hp => ?_, fun p hp => ?_⟩
  · rw [take_next h]
    exact List.mem_append_left _ (g.sub p hp)
  · rw [take_next h] at hp
    rcases List.mem_append.mp hp with z | z
    · exact g.all p z
    · rw [List.mem_singleton.mp z]
      exact hm
theorem GotM.more {ks L L' : Es} {i : Nat} {x : Value × NestedKey} (g : GotM ks i L) (h : ks[i]? = some x) (pm : L'.Perm (x :: L)) : GotM ks (i + 1) L' := by
  refine ⟨fun p hp => ?_, fun p hp => ?_⟩
  · rw [take_next h]
    rcases List.mem_cons.mp (pm.mem_iff.mp hp) with z | z
    · rw [z]
      exact List.mem_append_right _ List.mem_cons_self
    · exact List.mem_append_left _ (g.sub p z)
  · rw [take_next h] at hp
    rw [(pm.map (·.2)).mem_iff, List.map_cons]
    rcases List.mem_append.mp hp with z | z
    · exact List.mem_cons_of_mem _ (g.all p z)
    · rw [List.mem_singleton.mp z]
      exact List.mem_cons_self
theorem nodup_le {D : List NestedKey} : ∀ {l : List NestedKey}, l.Nodup → (∀ x ∈ l, x ∈ D) → l.length ≤ D.length := by
  induction D with
  | nil =>
    intro l hn hs
    cases l with
    | nil => exact Nat.le_refl _
    | cons x l => exact absurd (hs x List.mem_cons_self) (by simp)
  | cons d D ih =>
    intro l hn hs
    have h := ih (l := l.erase d) (hn.erase d) fun x hx => by
      have hx2 : x ∈ l := List.mem_of_mem_erase hx
      rcases List.mem_cons.mp (hs x hx2) with e | e
      · rw [e] at hx
        exact absurd hx hn.not_mem_erase
      · exact e
    have hle : l.length ≤ (l.erase d).length + 1 := by
      by_cases hd : d ∈ l
      · rw [List.length_erase_of_mem hd]
        omega
      · rw [List.erase_of_not_mem hd]
        omega
    rw [List.length_cons]
    omega
theorem SM.lt {h : Heap} (R : SM m w h a L) {ks : Es} {i : Nat} (g : GotM ks i L) {D : List NestedKey} (hD : D.length < 75) (hk : ∀ p ∈ ks, p.2 ∈ D) : L.length + 1 < 76 := by
  obtain ⟨_, _, _, _, _, _, _, _, _, _, _, _, nd⟩ := R.ob
  have h := nodup_le (D := D) nd fun x hx => by
    obtain ⟨p, hp, e⟩ := List.mem_map.mp hx
    rw [← e]
    exact hk p (List.mem_of_mem_take (g.sub p hp))
  rw [List.length_map] at h
  omega
/-- set.update's loop -/
theorem updM {I : Addr} {fp wr : List Addr} {G : Array GenState → Array GenState → Prop} {n : Nat} {Pv : Nat → Value → Prop} {St : Nat → Shared → Prop} {R : Result → Shared → Prop}
    (W : WalksS P w A.in1 I fp wr G n Pv St) (S : Addr) (hSf : S ∉ fp) (ks : Es) (hn : n = ks.length) {D : List NestedKey} (hD : D.length < 75) (hks : ∀ p ∈ ks, p.2 ∈ D) (hval : ∀ i v, Pv i v → ∃ p, ks[i]? = some p ∧ v = p.1)
    (h0 : Heap) (hk : ∀ p ∈ ks, KM m h0 p.2 p.1) (hS0 : h0.get? S = none) (hw0 : ∀ b ∈ wr, h0.get? b = none) (hu : A.in1.units + 8 < cLine) :
    ∀ (k i : Nat) (s : Shared), n - i = k → i ≤ n → St i s → (∀ b o, h0.get? b = some o → s.heap.get? b = some o) → (∃ L, SM m w s.heap S L ∧ GotM ks i L) →
      (∀ s' L, Moved (S :: wr) G s s' → SM m w s'.heap S L → GotM ks n L → (∀ b o, h0.get? b = some o → s'.heap.get? b = some o) → R (.ok (.ret .none)) s') →
      codeAny (model P w) A (.builtin "set.update.loop" ⟨[.ref S, .ref I], []⟩) R s := by
  have hSw : S ∉ wr := fun h => hSf (W.sub _ h)
  have hsub : ∀ b ∈ wr, b ∈ S :: wr := fun b hb => List.mem_cons_of_mem _ hb
  have keepM : ∀ {s s' : Shared}, Moved wr G s s' → (∀ b o, h0.get? b = some o → s.heap.get? b = some o) → ∀ b o, h0.get? b = some o → s'.heap.get? b = some o := fun hm hkp b o e =>
    hm.heap b o (fun hb => by rw [hw0 b hb] at e; cases e) (hkp b o e)
  intro k
  induction k with
  | zero =>
    intro i s hk' hi hst hkp ⟨L, hS, g⟩ hR
    have hin : i = n := by omega
    subst hin
    refine codeAny_builtin F.entry_set_update_loop ?_
    rw [Around.under_plainId F.plain_set_update_loop _]
    show wpAny _ A.in1 (pyNext (.ref I) >>= _) _ _ s
    refine wpAny_bind (W.done s _ _ hst fun s' hm => ?_)
    show wpAny _ A.in1 (ret Value.none) _ _ s'
    have hkp' := keepM hm hkp
    have sub : ∀ p ∈ L, p ∈ ks := fun p hp => List.mem_of_mem_take (g.sub p hp)
    exact wpAny_pure (hR s' L (hm.mono hsub) (hS.keep (fun o e => hm.heap S o hSw e) fun p hp => (hk p (sub p hp)).keep hkp') g hkp')
  | succ k ih =>
    intro i s hk' hi hst hkp ⟨L, hS, g⟩ hR
    have hlt : i < n := by omega
    refine codeAny_builtin F.entry_set_update_loop ?_
    rw [Around.under_plainId F.plain_set_update_loop _]
    show wpAny _ A.in1 (pyNext (.ref I) >>= _) _ _ s
    refine wpAny_bind (W.item i s _ _ hlt hst fun v s' hP hst' hm => ?_)
    obtain ⟨p, hp, rfl⟩ := hval i v hP
    have hkp' := keepM hm hkp
    have sub : ∀ p ∈ L, p ∈ ks := fun p hp => List.mem_of_mem_take (g.sub p hp)
    have hS' : SM m w s'.heap S L := hS.keep (fun o e => hm.heap S o hSw e) fun q hq => (hk q (sub q hq)).keep hkp'
    have hx : KM m s'.heap p.2 p.1 := (hk p (List.mem_of_getElem? hp)).keep hkp'
    show wpAny _ A.in1 (holding [p.1] (setAdd S p.1) >>= _) _ _ s'
    refine wpAny_bind (wpAny_holding ?_)
    refine addM hS' hx hu (hS'.lt g hD hks) fun b h' L' tk htk hsb hS2 c1 c2 => ?_
    have g' : GotM ks (i + 1) L' := by
      rcases Classical.em (p.2 ∈ L.map (·.2)) with c | c
      · rw [c1 c]; exact g.same hp c
      · exact g.more hp (c2 c)
    have hkp2 : ∀ b o, h0.get? b = some o → h'.get? b = some o := fun b o e => (hsb.2 b (fun z => by rw [z, hS0] at e; cases e)).trans (hkp' b o e)
    refine wpAny_pure ⟨plainId_quiet F.plain_set_update_loop _, ih (i + 1) _ (by omega) hlt (W.frame _ s' _ _ hst' htk fun b hb o e => ?_) hkp2 ⟨L', hS2, g'⟩ fun s'' L2 hm'' hS'' g'' hkp'' => ?_⟩
    · rw [hsb.2 b (fun h : b = S => hSf (by rw [← h]; exact hb))]; exact e
    · refine hR s'' L2 (Moved.trans W.gtrans ((hm.mono hsub).then_heap htk fun b o hb e => ?_) hm'') hS'' g'' hkp''
      rw [hsb.2 b (fun h : b = S => hb (by rw [h]; exact List.mem_cons_self))]; exact e
set_option maxHeartbeats 3200000 in
theorem call_set_listM {l : Addr} {items : Array Value} (ks : Es) {Q : Value → Shared → Prop} (hh : A.handled = none) (hl : s.heap.IsList l items) (hit : items.toList = ks.map (·.1))
    (hk : ∀ p ∈ ks, KM m s.heap p.2 p.1) {D : List NestedKey} (hD : D.length < 75) (hks : ∀ p ∈ ks, p.2 ∈ D) (hu : A.units + 16 < cLine)
    (h : ∀ (h' : Heap) (tk : Nat) L, SM m w h' s.heap.objs.size L → GotM ks ks.length L → (∀ b o, s.heap.get? b = some o → h'.get? b = some o) → Q (.ref s.heap.objs.size) { s with heap := h', toks := tk }) :
    wpAny (model P w) A (call (.type "set") [.ref l]) Q E s := by
  have hisz : items.size = ks.length := by
    have q := congrArg List.length hit
    rw [Array.length_toList, List.length_map] at q
    exact q
  obtain ⟨c, tl, hmro⟩ := F.called_set.mro
  have hmade := F.called_set.made
  have hsub := F.called_set.sub
  refine wpAny_call (codeAny_of_tree ?_)
  show wpAny _ _ (callAny (.type "set") _) _ _ _
  refine wpAny_pure ⟨Code.quiet_builtin _ (by decide +kernel), codeAny_builtin F.entry_type_call ?_⟩
  rw [Around.under_plain (weight_type_call_type "set" [.ref l] []) rfl]
  have h1 := F.called_set.notType
  have h2 := F.called_set.canCreate
  have hct := F.typeCall_set_1 (.ref l)
  repeat (any_goals (first | assumption | wp_step))
  refine codeAny_mono (code_set_led1 (.ref l) (E := E) (Q₁ := fun obj s₁ => obj = .ref s.heap.objs.size ∧ s₁ = { s with heap := s.heap.push { cls := .type "set", dict := none, data := .set #[] 0 (.fresh 0 0 (!w.params.followText "set-order")) } }) ⟨rfl, rfl⟩) fun r s₁ hr => ?_
  cases r with
  | error e => exact hr
  | ok fl =>
    cases fl with
    | ret obj =>
      obtain ⟨rfl, rfl⟩ := hr
      have hS : (s.heap.push { cls := .type "set", dict := none, data := .set #[] 0 (.fresh 0 0 (!w.params.followText "set-order")) }).get? s.heap.objs.size = some { cls := .type "set", dict := none, data := .set #[] 0 (.fresh 0 0 (!w.params.followText "set-order")) } := Heap.get?_push_size _ rfl
      have hT : Shared.TypeIs { s with heap := s.heap.push { cls := .type "set", dict := none, data := .set #[] 0 (.fresh 0 0 (!w.params.followText "set-order")) } } (.ref s.heap.objs.size) "set" := ⟨_, hS, rfl⟩
      have hli := F.called_set.init.lookup
      have hbi := F.called_set.init.bind (.ref s.heap.objs.size)
      repeat (any_goals (first | assumption | wp_step))
      refine codeAny_mono (codeAny_call_builtin (R := wants (fun r s₂ => r = .none ∧ ∃ h' tk L, s₂ = { s with heap := h', toks := tk } ∧ SM m w h' s.heap.objs.size L ∧ GotM ks ks.length L ∧
          (∀ b o, s.heap.get? b = some o → h'.get? b = some o)) E) F.called_set.init.plain F.entry_set_init (check_set_init_1 hT ?_)) fun r₂ s₂ hr₂ => ?_
      · obtain ⟨ol, hol, hcl, nl, hdl⟩ := hl
        obtain ⟨ocls, odict, odata, oslots⟩ := ol
        simp only at hcl hdl
        subst hcl; subst hdl
        have hol' : (s.heap.push { cls := .type "set", dict := none, data := .set #[] 0 (.fresh 0 0 (!w.params.followText "set-order")) }).get? l = some { cls := .type "list", dict := odict, data := .seq items nl, slots := oslots } := Heap.get?_push_of_some _ hol
        have hsls := F.sub_list_set
        have hslf := F.sub_list_frozenset
        have hne : (Value.type "list" == Value.type "dict") = false := by decide
        have hl1 : (s.heap.push { cls := .type "set", dict := none, data := .set #[] 0 (.fresh 0 0 (!w.params.followText "set-order")) }).IsList l items := ⟨_, hol', rfl, nl, rfl⟩
        unfold Builtin.«set.__init__» noKeywords Builtin.Frozenset.updateFrom
        generalize hPI : pyIter = PI
        wp_walk
        subst hPI
        refine wpAny_pyIter_list hl1 ?_
        refine wpAny_bind (wpAny_runValue ?_)
        have hlS : l < s.heap.objs.size := Heap.lt_size hol
        have hh3 : A.in1.in1.in1.handled = none := by simp [hh]
        have hneI : l ≠ (s.heap.push { cls := .type "set", dict := none, data := .set #[] 0 (.fresh 0 0 (!w.params.followText "set-order")) }).objs.size := by
          rw [Heap.size_push]; exact Nat.ne_of_lt (Nat.lt_succ_of_lt hlS)
        have hSf : s.heap.objs.size ∉ [(s.heap.push { cls := .type "set", dict := none, data := .set #[] 0 (.fresh 0 0 (!w.params.followText "set-order")) }).objs.size, l] := by
          rw [Heap.size_push]; simp only [List.mem_cons, List.mem_singleton, List.not_mem_nil, or_false, not_or]
          exact ⟨Nat.ne_of_lt (Nat.lt_succ_self _), Nat.ne_of_gt hlS⟩
        have hval : ∀ (i : Nat) (v : Value), items[i]? = some v → ∃ p, ks[i]? = some p ∧ v = p.1 := fun i v hv => by
          have q : items.toList[i]? = some v := by rw [Array.getElem?_toList]; exact hv
          rw [hit, List.getElem?_map] at q
          cases hq : ks[i]? with
          | none => rw [hq] at q; cases q
          | some p =>
            rw [hq] at q
            exact ⟨p, rfl, (Option.some.inj q).symm⟩
        have none_of : ∀ b, s.heap.objs.size ≤ b → s.heap.get? b = none := fun b hb => by
          cases q : s.heap.get? b with
          | none => rfl
          | some o => exact absurd (Nat.lt_of_lt_of_le (Heap.lt_size q) hb) (Nat.lt_irrefl _)
        refine updM (m := m) ((Walks.list hh3 _ l hneI items).toS) s.heap.objs.size
          hSf ks hisz hD hks hval s.heap hk (none_of _ (Nat.le_refl _)) (fun b hb => none_of b (by
            rw [List.mem_singleton.mp hb, Heap.size_push]
            exact Nat.le_succ _)) (by simp only [Around.in1_units]; omega) (items.size - 0) 0 _ (by omega) (Nat.zero_le _)
          ⟨⟨_, Heap.get?_push_size _ rfl, rfl, rfl⟩, (hl1.push _)⟩ (fun b o e => Heap.get?_push_of_some _ (Heap.get?_push_of_some _ e)) ?hS0 ?hR
        case hS0 =>
          exact ⟨[], sm_fresh m (Heap.get?_push_of_some _ hS), GotM.zero ks⟩
        case hR =>
          intro s' L hm hS' g' hkp
          obtain ⟨h', g2, d', tk', os'⟩ := s'
          have eg : g2 = s.gens := hm.gens
          have ed : d' = s.drawn := hm.drawn
          have eo : os' = s.os := hm.os
          subst eg; subst ed; subst eo
          show wpAny _ _ _ _ _ _
          refine wpAny_pure ?_
          show wpAny _ _ (ret Value.none) _ _ _
          rw [hisz] at g'
          exact wpAny_pure ⟨rfl, h', tk', L, rfl, hS', g', hkp⟩
      · cases r₂ with
        | error e => exact hr₂
        | ok fl₂ =>
          cases fl₂ with
          | ret r =>
            obtain ⟨rfl, h', tk, L, rfl, hS', g', hk'⟩ := hr₂
            repeat (any_goals (first | assumption | wp_step))
            exact h _ _ _ hS' g' hk'
          | _ => exact hr₂.elim
    | _ => exact hr.elim
set_option maxHeartbeats 3200000 in
theorem call_set_tupleM {l : Addr} {items : Array Value} (ks : Es) {Q : Value → Shared → Prop} (hh : A.handled = none) (hl : s.heap.IsTuple l items) (hit : items.toList = ks.map (·.1))
    (hk : ∀ p ∈ ks, KM m s.heap p.2 p.1) {D : List NestedKey} (hD : D.length < 75) (hks : ∀ p ∈ ks, p.2 ∈ D) (hu : A.units + 16 < cLine)
    (h : ∀ (h' : Heap) (tk : Nat) L, SM m w h' s.heap.objs.size L → GotM ks ks.length L → (∀ b o, s.heap.get? b = some o → h'.get? b = some o) → Q (.ref s.heap.objs.size) { s with heap := h', toks := tk }) :
    wpAny (model P w) A (call (.type "set") [.ref l]) Q E s := by
  have hisz : items.size = ks.length := by
    have q := congrArg List.length hit
    rw [Array.length_toList, List.length_map] at q
    exact q
  obtain ⟨c, tl, hmro⟩ := F.called_set.mro
  have hmade := F.called_set.made
  have hsub := F.called_set.sub
  refine wpAny_call (codeAny_of_tree ?_)
  show wpAny _ _ (callAny (.type "set") _) _ _ _
  refine wpAny_pure ⟨Code.quiet_builtin _ (by decide +kernel), codeAny_builtin F.entry_type_call ?_⟩
  rw [Around.under_plain (weight_type_call_type "set" [.ref l] []) rfl]
  have h1 := F.called_set.notType
  have h2 := F.called_set.canCreate
  have hct := F.typeCall_set_1 (.ref l)
  repeat (any_goals (first | assumption | wp_step))
  refine codeAny_mono (code_set_led1 (.ref l) (E := E) (Q₁ := fun obj s₁ => obj = .ref s.heap.objs.size ∧ s₁ = { s with heap := s.heap.push { cls := .type "set", dict := none, data := .set #[] 0 (.fresh 0 0 (!w.params.followText "set-order")) } }) ⟨rfl, rfl⟩) fun r s₁ hr => ?_
  cases r with
  | error e => exact hr
  | ok fl =>
    cases fl with
    | ret obj =>
      obtain ⟨rfl, rfl⟩ := hr
      have hS : (s.heap.push { cls := .type "set", dict := none, data := .set #[] 0 (.fresh 0 0 (!w.params.followText "set-order")) }).get? s.heap.objs.size = some { cls := .type "set", dict := none, data := .set #[] 0 (.fresh 0 0 (!w.params.followText "set-order")) } := Heap.get?_push_size _ rfl
      have hT : Shared.TypeIs { s with heap := s.heap.push { cls := .type "set", dict := none, data := .set #[] 0 (.fresh 0 0 (!w.params.followText "set-order")) } } (.ref s.heap.objs.size) "set" := ⟨_, hS, rfl⟩
      have hli := F.called_set.init.lookup
      have hbi := F.called_set.init.bind (.ref s.heap.objs.size)
      repeat (any_goals (first | assumption | wp_step))
      refine codeAny_mono (codeAny_call_builtin (R := wants (fun r s₂ => r = .none ∧ ∃ h' tk L, s₂ = { s with heap := h', toks := tk } ∧ SM m w h' s.heap.objs.size L ∧ GotM ks ks.length L ∧
          (∀ b o, s.heap.get? b = some o → h'.get? b = some o)) E) F.called_set.init.plain F.entry_set_init (check_set_init_1 hT ?_)) fun r₂ s₂ hr₂ => ?_
      · obtain ⟨ol, hol, hcl, nl, hdl⟩ := hl
        obtain ⟨ocls, odict, odata, oslots⟩ := ol
        simp only at hcl hdl
        subst hcl; subst hdl
        have hol' : (s.heap.push { cls := .type "set", dict := none, data := .set #[] 0 (.fresh 0 0 (!w.params.followText "set-order")) }).get? l = some { cls := .type "tuple", dict := odict, data := .seq items nl, slots := oslots } := Heap.get?_push_of_some _ hol
        have hsls := F.sub_tuple_set
        have hslf := F.sub_tuple_frozenset
        have hne : (Value.type "tuple" == Value.type "dict") = false := by decide
        have hl1 : (s.heap.push { cls := .type "set", dict := none, data := .set #[] 0 (.fresh 0 0 (!w.params.followText "set-order")) }).IsTuple l items := ⟨_, hol', rfl, nl, rfl⟩
        unfold Builtin.«set.__init__» noKeywords Builtin.Frozenset.updateFrom
        generalize hPI : pyIter = PI
        wp_walk
        subst hPI
        refine wpAny_pyIter_tuple hl1 ?_
        refine wpAny_bind (wpAny_runValue ?_)
        have hlS : l < s.heap.objs.size := Heap.lt_size hol
        have hh3 : A.in1.in1.in1.handled = none := by simp [hh]
        have hneI : l ≠ (s.heap.push { cls := .type "set", dict := none, data := .set #[] 0 (.fresh 0 0 (!w.params.followText "set-order")) }).objs.size := by
          rw [Heap.size_push]; exact Nat.ne_of_lt (Nat.lt_succ_of_lt hlS)
        have hSf : s.heap.objs.size ∉ [(s.heap.push { cls := .type "set", dict := none, data := .set #[] 0 (.fresh 0 0 (!w.params.followText "set-order")) }).objs.size, l] := by
          rw [Heap.size_push]; simp only [List.mem_cons, List.mem_singleton, List.not_mem_nil, or_false, not_or]
          exact ⟨Nat.ne_of_lt (Nat.lt_succ_self _), Nat.ne_of_gt hlS⟩
        have hval : ∀ (i : Nat) (v : Value), items[i]? = some v → ∃ p, ks[i]? = some p ∧ v = p.1 := fun i v hv => by
          have q : items.toList[i]? = some v := by rw [Array.getElem?_toList]; exact hv
          rw [hit, List.getElem?_map] at q
          cases hq : ks[i]? with
          | none => rw [hq] at q; cases q
          | some p =>
            rw [hq] at q
            exact ⟨p, rfl, (Option.some.inj q).symm⟩
        have none_of : ∀ b, s.heap.objs.size ≤ b → s.heap.get? b = none := fun b hb => by
          cases q : s.heap.get? b with
          | none => rfl
          | some o => exact absurd (Nat.lt_of_lt_of_le (Heap.lt_size q) hb) (Nat.lt_irrefl _)
        refine updM (m := m) ((Walks.tuple hh3 _ l hneI items).toS) s.heap.objs.size
          hSf ks hisz hD hks hval s.heap hk (none_of _ (Nat.le_refl _)) (fun b hb => none_of b (by
            rw [List.mem_singleton.mp hb, Heap.size_push]
            exact Nat.le_succ _)) (by simp only [Around.in1_units]; omega) (items.size - 0) 0 _ (by omega) (Nat.zero_le _)
          ⟨⟨_, Heap.get?_push_size _ rfl, rfl, rfl⟩, (hl1.push _)⟩ (fun b o e => Heap.get?_push_of_some _ (Heap.get?_push_of_some _ e)) ?hS0 ?hR
        case hS0 =>
          exact ⟨[], sm_fresh m (Heap.get?_push_of_some _ hS), GotM.zero ks⟩
        case hR =>
          intro s' L hm hS' g' hkp
          obtain ⟨h', g2, d', tk', os'⟩ := s'
          have eg : g2 = s.gens := hm.gens
          have ed : d' = s.drawn := hm.drawn
          have eo : os' = s.os := hm.os
          subst eg; subst ed; subst eo
          show wpAny _ _ _ _ _ _
          refine wpAny_pure ?_
          show wpAny _ _ (ret Value.none) _ _ _
          rw [hisz] at g'
          exact wpAny_pure ⟨rfl, h', tk', L, rfl, hS', g', hkp⟩
      · cases r₂ with
        | error e => exact hr₂
        | ok fl₂ =>
          cases fl₂ with
          | ret r =>
            obtain ⟨rfl, h', tk, L, rfl, hS', g', hk'⟩ := hr₂
            repeat (any_goals (first | assumption | wp_step))
            exact h _ _ _ hS' g' hk'
          | _ => exact hr₂.elim
    | _ => exact hr.elim
end
end PLS

/-! Sets of keys: the readings. -/
namespace PLS
open PySem PySem.Spec PyProof.Rows L2
open PySem.W (dataLe dataLt alike AllAlike EachIs)
abbrev Vk := List (V × NestedKey)
/-- v is the key k -/
def KV (m : Bool) (K : PySem.W.Frag) (H : Hp) (k : NestedKey) (v : V) : Prop := match m with
  | true => (∃ a, v = .ref a) ∧ k.depth ≤ 8 ∧ Dp K H v k.data
  | false => (∃ i, k = .num i ∧ v = .int i) ∨ ∃ x, k = .text x ∧ v = .str x
section
variable {X : Cx} {pins : List (Addr × Obj)} {σ : L2.St} {H : Hp} {s : Shared} {m : Bool}
mutual
theorem nested_of (I : Inv X pins σ H s) : ∀ (k : NestedKey) (v : V) (u : Value), Dp X.K H v k.data → RelV v u → NestedIs s.heap k u
  | .none, v, u, h, r => by
    rw [NestedKey.data] at h
    cases h
    obtain rfl : u = Value.none := r
    exact .none
  | .num i, v, u, h, r => by
    rw [NestedKey.data] at h
    cases h
    obtain ⟨t, rfl⟩ := r
    exact .int i t
  | .text x, v, u, h, r => by
    rw [NestedKey.data] at h
    cases h
    obtain ⟨t, rfl⟩ := r
    exact .text x t
  | .tup ks, v, u, h, r => by
    rw [NestedKey.data] at h
    cases h with
    | tup hq ha =>
      cases r
      obtain ⟨its, rv, ⟨o, ho, hc, n, hd⟩, _⟩ := I.tuple hq
      exact .tup ho hc hd (by simpa using nested_all I ks _ _ ha rv)
theorem nested_all (I : Inv X pins σ H s) : ∀ (ks : List NestedKey) (vs : List V) (us : List Value), DpAll X.K H vs (NestedKey.datas ks) → Vals vs us → NestedAll s.heap ks us
  | [], vs, us, h, r => by
    rw [NestedKey.datas] at h
    cases h
    cases r
    exact .nil
  | k :: ks, vs, us, h, r => by
    rw [NestedKey.datas] at h
    cases h with
    | cons h1 h2 =>
      cases r with
      | cons r1 r2 => exact .cons (nested_of I k _ _ h1 r1) (nested_all I ks _ _ h2 r2)
end
theorem KV.km (I : Inv X pins σ H s) {k : NestedKey} {v : V} {u : Value} (h : KV m X.K H k v) (r : RelV v u) : KM m s.heap k u := by
  cases m with
  | true =>
    obtain ⟨⟨a, rfl⟩, hd, hp⟩ := h
    exact ⟨nested_of I k _ _ hp r, hd, a, r⟩
  | false =>
    rcases h with ⟨i, rfl, rfl⟩ | ⟨x, rfl, rfl⟩
    · obtain ⟨t, rfl⟩ := r
      exact BK.int i t
    · obtain ⟨t, rfl⟩ := r
      exact BK.text x t
theorem KV.dp {k : NestedKey} {v : V} {K : PySem.W.Frag} (h : KV m K H k v) : Dp K H v k.data := by
  cases m with
  | true => exact h.2.2
  | false =>
    rcases h with ⟨i, rfl, rfl⟩ | ⟨x, rfl, rfl⟩
    · rw [NestedKey.data]; exact .int i
    · rw [NestedKey.data]; exact .str x
mutual
theorem data_depth : ∀ k : NestedKey, k.data.depth ≤ k.depth
  | .none => by rw [NestedKey.data, NestedKey.depth]; exact Nat.le_refl _
  | .num i => by rw [NestedKey.data, NestedKey.depth]; exact Nat.le_refl _
  | .text x => by rw [NestedKey.data, NestedKey.depth]; exact Nat.le_refl _
  | .tup ks => by
    rw [NestedKey.data, NestedKey.depth, PyData.depth]
    have := datas_depth ks
    omega
theorem datas_depth : ∀ ks : List NestedKey, PyData.depthAll (NestedKey.datas ks) ≤ NestedKey.depthAll ks
  | [] => by rw [NestedKey.datas, NestedKey.depthAll]; exact Nat.le_refl _
  | k :: ks => by
    rw [NestedKey.datas, NestedKey.depthAll, PyData.depthAll]
    have := data_depth k
    have := datas_depth ks
    omega
end
theorem KV.deep {k : NestedKey} {v : V} {K : PySem.W.Frag} (h : KV m K H k v) : k.data.depth ≤ 8 := by
  refine Nat.le_trans (data_depth k) ?_
  cases m with
  | true => exact h.2.1
  | false =>
    rcases h with ⟨i, rfl, rfl⟩ | ⟨x, rfl, rfl⟩ <;> (rw [NestedKey.depth]; omega)
/-- the set at a, as it is known in the abstract heap -/
def SM0 (m : Bool) (w : World) (h : Heap) (a : Addr) (L : Vk) : Prop := ∃ (L' : Es) (h0 : Heap), SM m w h0 a L' ∧ (∀ o, h0.get? a = some o → h.get? a = some o) ∧ Vals (L.map (·.1)) (L'.map (·.1)) ∧ L'.map (·.2) = L.map (·.2)
def SetMO (m : Bool) (w : World) (a : Addr) (L : Vk) : HO := .ext fun h => SM0 m w h a L
theorem setMO_new {P : Program} {w : World} {H : Hp} {h : Heap} {a : Addr} {L : Vk} (R : SM0 m w h a L) : ObjOk P w H h a (SetMO m w a L) := by
  obtain ⟨L', h0, S, k, r⟩ := id R
  obtain ⟨o, _, _, _, ho, _⟩ := S.ob
  refine ⟨R, ⟨o, k o ho⟩, fun h1 h2 p q => ?_⟩
  obtain ⟨L2, h3, S2, k2, r2⟩ := p
  exact ⟨L2, h3, S2, fun o e => q o (k2 o e), r2⟩
theorem zip_vals : ∀ {L : Vk} {L' : Es}, Vals (L.map (·.1)) (L'.map (·.1)) → L'.map (·.2) = L.map (·.2) → ∀ p ∈ L', ∃ q ∈ L, RelV q.1 p.1 ∧ p.2 = q.2
  | [], [], _, _, p, hp => by cases hp
  | [], _ :: _, h, _, _, _ => by cases h
  | _ :: _, [], h, _, _, _ => by cases h
  | q :: L, p :: L', h, e, r, hr => by
    cases h with
    | cons h1 h2 =>
      injection e with e1 e2
      rcases List.mem_cons.mp hr with rfl | hr
      · exact ⟨q, List.mem_cons_self, h1, e1⟩
      · obtain ⟨q', a, b⟩ := zip_vals h2 e2 r hr
        exact ⟨q', List.mem_cons_of_mem _ a, b⟩
theorem sm0_get (I : Inv X pins σ H s) {a : Addr} {L : Vk} (h : H a = some (SetMO m X.w a L)) (hk : ∀ p ∈ L, KV m X.K H p.2 p.1) : ∃ L' : Es, SM m X.w s.heap a L' ∧ Vals (L.map (·.1)) (L'.map (·.1)) ∧ L'.map (·.2) = L.map (·.2) := by
  have R : SM0 m X.w s.heap a L := (I.hok a _ h).1
  obtain ⟨L', h0, S, k, r1, r2⟩ := R
  refine ⟨L', S.keep k fun p hp => ?_, r1, r2⟩
  obtain ⟨q, hq, e1, e2⟩ := zip_vals r1 r2 p hp
  rw [e2]
  exact (hk q hq).km I e1
/-- values and their keys in step -/
def KVs (m : Bool) (K : PySem.W.Frag) (H : Hp) (zs : Vk) : Prop := ∀ z ∈ zs, KV m K H z.2 z.1
theorem es_of {zs : Vk} {us : List Value} (r : Vals (zs.map (·.1)) us) : ∃ ks : Es, us = ks.map (·.1) ∧ ks.map (·.2) = zs.map (·.2) ∧ (∀ p ∈ ks, ∃ z ∈ zs, RelV z.1 p.1 ∧ p.2 = z.2) := by
  have e1 : (us.zip (zs.map (·.2))).map (·.1) = us := List.map_fst_zip (by rw [List.length_map, ← r.length, List.length_map]; exact Nat.le_refl _)
  have e2 : (us.zip (zs.map (·.2))).map (·.2) = zs.map (·.2) := List.map_snd_zip (by rw [List.length_map, ← r.length, List.length_map]; exact Nat.le_refl _)
  exact ⟨us.zip (zs.map (·.2)), e1.symm, e2, zip_vals (by rw [e1]; exact r) e2⟩
/-- a sub-row of the keyed values, known by its values -/
theorem back_vk {zs : Vk} : ∀ (L : Es), (∀ p ∈ L, ∃ z ∈ zs, RelV z.1 p.1 ∧ p.2 = z.2) → ∃ L' : Vk, (∀ z ∈ L', z ∈ zs) ∧ Vals (L'.map (·.1)) (L.map (·.1)) ∧ L.map (·.2) = L'.map (·.2)
  | [], _ => ⟨[], fun z hz => (by cases hz), .nil, rfl⟩
  | p :: L, h => by
    obtain ⟨z, hz, r1, r2⟩ := h p List.mem_cons_self
    obtain ⟨L', a, b, c⟩ := back_vk L fun q hq => h q (List.mem_cons_of_mem _ hq)
    refine ⟨z :: L', fun y hy => ?_, .cons r1 b, by rw [List.map_cons, List.map_cons, c, r2]⟩
    rcases List.mem_cons.mp hy with e | e
    · rw [e]; exact hz
    · exact a y e
/-- set(xs) -/
def rSetM (K : PySem.W.Frag) (w : World) : List V → Hp → VK → Prop := fun xs H Q => ∃ (m : Bool) (l : Addr) (zs : Vk) (D : List NestedKey), xs = [V.ref l] ∧ (SqL K H l (zs.map (·.1)) ∨ SqT K H l (zs.map (·.1))) ∧ KVs m K H zs ∧ D.length < 75 ∧ (∀ z ∈ zs, z.2 ∈ D) ∧
  ∀ a L, H a = none → (∀ z ∈ L, z ∈ zs) → (L.map (·.2)).Nodup → (∀ z ∈ zs, z.2 ∈ L.map (·.2)) → Q (.ref a) (upd H a (SetMO m w a L))
theorem cr_setM (hc : X.calm = true) (hu : X.A.units + 64 < cLine) : CallR X (.type "set") (rSetM X.K X.w) := by
  intro pins s σ H xs us Q I r h
  obtain ⟨m, l, zs, D, rfl, hl, hk, hD, hs, q⟩ := h
  rw [Vals.ref1 r]
  have fin : ∀ (its : List Value), Vals (zs.map (·.1)) its → ∀ ks : Es, its = ks.map (·.1) → ks.map (·.2) = zs.map (·.2) → (∀ p ∈ ks, ∃ z ∈ zs, RelV z.1 p.1 ∧ p.2 = z.2) →
      ∀ (h' : Heap) (tk : Nat) L, SM m X.w h' s.heap.objs.size L → GotM ks ks.length L → (∀ b o, s.heap.get? b = some o → h'.get? b = some o) → EP X pins σ Q (.ref s.heap.objs.size) { s with heap := h', toks := tk } := fun its rv ks e1 e2 e3 h' tk L R g k => by
    obtain ⟨L', a1, a2, a3⟩ := back_vk L fun p hp => e3 p (List.mem_of_mem_take (g.sub p hp))
    have hn : H s.heap.objs.size = none := I.hok.fresh (Nat.le_refl _)
    refine ⟨.ref s.heap.objs.size, upd H s.heap.objs.size (SetMO m X.w s.heap.objs.size L'), I.laid (t' := tk) k (Nat.le_refl _) (setMO_new ⟨L, h', R, fun o e => e, a2, a3⟩), rfl, q _ L' hn a1 ?_ fun z hz => ?_⟩
    · rw [← a3]
      obtain ⟨_, _, _, _, _, _, _, _, _, _, _, _, nd⟩ := R.ob
      exact nd
    · rw [← a3]
      have hz2 : z.2 ∈ ks.map (·.2) := by rw [e2]; exact List.mem_map.mpr ⟨z, hz, rfl⟩
      obtain ⟨p, hp, ep⟩ := List.mem_map.mp hz2
      rw [← ep]
      exact g.all p (by rw [List.take_length]; exact hp)
  rcases hl with hl | hl
  · obtain ⟨its, rv, pl, hz⟩ := I.list hl
    obtain ⟨ks, e1, e2, e3⟩ := es_of rv
    refine call_set_listM (P := X.prog) (w := X.w) (m := m) (D := D) ks (I.ok.hd hc) pl.isList (by simpa using e1) (fun p hp => ?_) hD (fun p hp => ?_) (by omega) fun h' tk L R g k => fin its rv ks e1 e2 e3 h' tk L R g k
    · obtain ⟨z, hz, r1, r2⟩ := e3 p hp
      rw [r2]
      exact (hk z hz).km I r1
    · obtain ⟨z, hz, r1, r2⟩ := e3 p hp
      rw [r2]
      exact hs z hz
  · obtain ⟨its, rv, pl, hz⟩ := I.tuple hl
    obtain ⟨ks, e1, e2, e3⟩ := es_of rv
    refine call_set_tupleM (P := X.prog) (w := X.w) (m := m) (D := D) ks (I.ok.hd hc) pl (by simpa using e1) (fun p hp => ?_) hD (fun p hp => ?_) (by omega) fun h' tk L R g k => fin its rv ks e1 e2 e3 h' tk L R g k
    · obtain ⟨z, hz, r1, r2⟩ := e3 p hp
      rw [r2]
      exact (hk z hz).km I r1
    · obtain ⟨z, hz, r1, r2⟩ := e3 p hp
      rw [r2]
      exact hs z hz
/-- len of a set -/
def rLenM (K : PySem.W.Frag) (w : World) : List V → Hp → VK → Prop := fun xs H Q => ∃ (m : Bool) (a : Addr) (L : Vk), xs = [V.ref a] ∧ H a = some (SetMO m w a L) ∧ KVs m K H L ∧ Q (.int L.length) H
theorem cr_lenM : CallR X (.builtin "len") (rLenM X.K X.w) := by
  intro pins s σ H xs us Q I r h
  obtain ⟨m, a, L, rfl, ha, hk, q⟩ := h
  rw [Vals.ref1 r]
  obtain ⟨L', R, r1, r2⟩ := sm0_get I ha hk
  obtain ⟨o, es, ep, t, ho, hx, hd, hf, _, _, hr, fw, _⟩ := R.ob
  have hl : es.size = L.length := by
    rw [rws_len hr, ← List.length_map (·.2), r2, List.length_map]
  have fw' : L'.length = L.length := by rw [← List.length_map (·.2), r2, List.length_map]
  refine call_len_set ho hx hd hf (by rw [hl]; omega) ⟨.int L.length, H, I.tok _, ⟨_, by rw [hl]⟩, q⟩
end
theorem perm_map {α β : Type} {f : α → β} : ∀ {l m : List β}, l.Perm m → ∀ L : List α, m = L.map f → ∃ L2 : List α, l = L2.map f ∧ L2.Perm L := by
  intro l m h
  induction h with
  | nil => intro L e; exact ⟨L, e, .refl _⟩
  | @cons x l m _ ih =>
    intro L e
    cases L with
    | nil => cases e
    | cons p L =>
      injection e with e1 e2
      obtain ⟨L2, a, b⟩ := ih L e2
      exact ⟨p :: L2, by rw [a, e1]; rfl, b.cons p⟩
  | swap x y l =>
    intro L e
    match L, e with
    | p :: q :: L, e =>
      injection e with e1 e2
      injection e2 with e2 e3
      exact ⟨q :: p :: L, by rw [e1, e2, e3]; rfl, .swap _ _ _⟩
  | trans _ _ ih1 ih2 =>
    intro L e
    obtain ⟨L2, a, b⟩ := ih2 L e
    obtain ⟨L3, c, d⟩ := ih1 L2 a
    exact ⟨L3, c, d.trans b⟩
theorem each_self {β : Type} {R : Value → β → Prop} {f : β → Value} : ∀ (l : List β), (∀ b ∈ l, R (f b) b) → EachIs R (l.map f) l
  | [], _ => .nil
  | b :: l, h => .cons (h b List.mem_cons_self) (each_self l fun c hc => h c (List.mem_cons_of_mem _ hc))
theorem each_eq {β : Type} {f : β → Value} : ∀ {vs : List Value} {bs : List β}, EachIs (fun v b => v = f b) vs bs → vs = bs.map f
  | _, _, .nil => rfl
  | _, _, .cons h t => by rw [h, each_eq t]; rfl
section
variable {P : Program} {w : World} {A : Around} {E : Value → Shared → Prop} {s : Shared} {m : Bool} {a : Addr} {L : Es}
theorem sorted_setM {Q : Value → Shared → Prop} (R : SM m w s.heap a L) (hh : A.handled = none) (er : ∀ p ∈ L, ∃ as, Reads s.heap p.1 p.2.data as) (hal : AllAlike (L.map fun p => p.2.data)) (hk : PySem.W.Sortable (L.map fun p => p.2.data)) (hdp : ∀ p ∈ L, p.2.data.depth ≤ 8) (hu : A.units + 64 < cLine)
    (hQ : ∀ s' p (out : List Value) (c : Nat) (L1 : Es), (∀ b o, s.heap.get? b = some o → s'.heap.get? b = some o) → s'.gens = s.gens → s'.os = s.os → s.heap.objs.size ≤ p →
      s'.heap.get? p = some (seqObj "list" out.toArray c) → L1.Perm L → out = (L1.mergeSort (dataLe false fun p => p.2.data)).map (·.1) → Q (.ref p) s') :
    wpAny (model P w) A (call (.builtin "sorted") [.ref a]) Q E s := by
  obtain ⟨o, es, ep, t, ho, hex, hd, hf, hri, hld, hr, fw, nd⟩ := R.ob
  have hsz : es.size = L.length := rws_len hr
  refine Calls.call_function_entry kind_sorted plain_sorted entry_sorted (args_sorted1 _) ?_
  unfold Builtin.«sorted»
  refine wpAny_bind (m := checkCount "sorted" 1 1 _) (wpAny_pure ?_)
  refine wpAny_bind (collect_set (A := A.in1) hh ⟨o, ho, hex.1, hd⟩ hf (by unfold scanBound; omega) hri hld fun s1 vs k1 hz g1 o1 pm => ?_)
  have hes : es.toList.map (·.2) = L.map (·.1) := by
    rw [hr]
    unfold rws
    rw [List.map_map]
    rfl
  rw [hes] at pm
  obtain ⟨L1, e1, p1⟩ := perm_map (f := fun p : Value × NestedKey => p.1) pm L rfl
  have hvl : vs.length ≤ sizeLine := by rw [pm.length_eq, List.length_map, sizeLine_eq]; omega
  refine wpAny_bind (wpAny_newList ?_ hvl)
  have hoL : (s1.heap.push (seqObj "list" vs.toArray 0)).get? s1.heap.objs.size = some (seqObj "list" vs.toArray 0) := Heap.get?_push_size _ rfl
  have hm1 : ∀ p ∈ L1, p ∈ L := fun p hp => p1.mem_iff.mp hp
  have hmd : (L1.map fun p => p.2.data).Perm (L.map fun p => p.2.data) := p1.map _
  have al1 : AllAlike (L1.map fun p => p.2.data) := fun x hx y hy => hal x (hmd.mem_iff.mp hx) y (hmd.mem_iff.mp hy)
  have so1 : PySem.W.Sortable (L1.map fun p => p.2.data) := by
    rcases hk with h | h
    · exact .inl fun d hd => h d (hmd.mem_iff.mp hd)
    · exact .inr fun d hd => h d (hmd.mem_iff.mp hd)
  have ekeep : ∀ b u, s.heap.get? b = some u → (PySem.W.sortingHeap (s1.heap.push (seqObj "list" vs.toArray 0)) s1.heap.objs.size vs).get? b = some u := fun b u q => by
    have q1 := k1 b u q
    exact PySem.W.sortingHeap_old (Nat.ne_of_lt (Heap.lt_size q1)) (Heap.get?_push_of_some _ q1)
  have er' : EachIs (fun v (b : Value × NestedKey) => ∃ as, Reads (PySem.W.sortingHeap (s1.heap.push (seqObj "list" vs.toArray 0)) s1.heap.objs.size vs) v b.2.data as) vs L1 := by
    rw [e1]
    refine each_self L1 fun p hp => ?_
    obtain ⟨as, r⟩ := er p (hm1 p hp)
    exact ⟨as, PyProof.Rows.Reads.keeps (by rw [← e1]; exact ekeep) r⟩
  have es' : EachIs (fun v (b : Value × NestedKey) => v = b.1) vs L1 := by
    rw [e1]
    exact each_self L1 fun p hp => rfl
  refine wpAny_bind (wpAny_holding (wpAny_call_entry slot_list_sort ⟨_, hoL, rfl⟩ entry_list_sort (PySem.W.list_sort_vals (κ := PySem.W.dataKind (PySem.W.sortingHeap (s1.heap.push (seqObj "list" vs.toArray 0)) s1.heap.objs.size vs) (L1.map fun p => p.2.data)) hoL
    (PySem.W.SortsAt.data (s := { s1 with heap := PySem.W.sortingHeap (s1.heap.push (seqObj "list" vs.toArray 0)) s1.heap.objs.size vs }) (PySem.W.each_map (R := fun v d => ∃ as, Reads (PySem.W.sortingHeap (s1.heap.push (seqObj "list" vs.toArray 0)) s1.heap.objs.size vs) v d as) (fun p : Value × NestedKey => p.2.data) er') al1 so1 (PySem.W.bound_map fun b hb => ?_)) hvl ⟨.none, rfl, ?_⟩) (args_list_sort _)))
  · have := hdp b (hm1 b hb)
    simp only [Around.in1_units]
    omega
  · have so := PySem.W.sortVals_data false (R := fun v (b : Value × NestedKey) => v = b.1) (enc := fun p => p.2.data) es' er' al1
    have eo := each_eq so
    obtain ⟨c, hc⟩ := sortedHeap_at (vs := vs) (out := (PySem.W.sortVals (PySem.W.dataKind (PySem.W.sortingHeap (s1.heap.push (seqObj "list" vs.toArray 0)) s1.heap.objs.size vs) (L1.map fun p => p.2.data)) false vs vs).toArray) hoL
    refine wpAny_pure ⟨_, rfl, hQ _ s1.heap.objs.size _ c L1 (fun b u e => ?_) g1 o1 hz hc p1 eo⟩
    have q := k1 b u e
    have hlt := Heap.lt_size q
    show (sortedHeap (s1.heap.push (seqObj "list" vs.toArray 0)) s1.heap.objs.size vs _).get? b = some u
    rw [sortedHeap_old (Nat.ne_of_lt hlt) (by rw [size_push']; exact Nat.lt_succ_of_lt hlt)]
    exact Heap.get?_push_of_some _ q
end
section
variable {X : Cx} {pins : List (Addr × Obj)} {σ : L2.St} {H : Hp} {s : Shared} {m : Bool}
theorem perm_back : ∀ {L : Vk} {L' : Es}, Vals (L.map (·.1)) (L'.map (·.1)) → L'.map (·.2) = L.map (·.2) → ∃ Z : List ((V × NestedKey) × (Value × NestedKey)), L = Z.map (·.1) ∧ L' = Z.map (·.2) ∧ ∀ z ∈ Z, RelV z.1.1 z.2.1 ∧ z.2.2 = z.1.2
  | [], [], _, _ => ⟨[], rfl, rfl, fun z hz => (by cases hz)⟩
  | [], _ :: _, h, _ => by cases h
  | _ :: _, [], h, _ => by cases h
  | q :: L, p :: L', h, e => by
    cases h with
    | cons h1 h2 =>
      injection e with e1 e2
      obtain ⟨Z, a, b, c⟩ := perm_back h2 e2
      refine ⟨(q, p) :: Z, by rw [a]; rfl, by rw [b]; rfl, fun z hz => ?_⟩
      rcases List.mem_cons.mp hz with rfl | hz
      · exact ⟨h1, e1⟩
      · exact c z hz
theorem vals_map {α : Type} {f : α → V} {g : α → Value} : ∀ (l : List α), (∀ z ∈ l, RelV (f z) (g z)) → Vals (l.map f) (l.map g)
  | [], _ => .nil
  | z :: l, h => .cons (h z List.mem_cons_self) (vals_map l fun y hy => h y (List.mem_cons_of_mem _ hy))
/-- sorted of a set -/
def rSortedM (K : PySem.W.Frag) (w : World) : List V → Hp → VK → Prop := fun vs H Q => ∃ (m : Bool) (a : Addr) (L : Vk), vs = [V.ref a] ∧ H a = some (SetMO m w a L) ∧ KVs m K H L ∧ AllAlike (L.map fun z => z.2.data) ∧ PySem.W.Sortable (L.map fun z => z.2.data) ∧
  ∀ (L1 : Vk) (p : Addr), L1.Perm L → H p = none → Q (.ref p) (upd H p (.lst ((L1.mergeSort (dataLe false fun z => z.2.data)).map (·.1))))
theorem cr_sortedM (hc : X.calm = true) (hu : X.A.units + 64 < cLine) : CallR X (.builtin "sorted") (rSortedM X.K X.w) := by
  intro pins s σ H vs us Q I r h
  obtain ⟨m, a, L, rfl, ha, hk, al, so, q⟩ := h
  rw [Vals.ref1 r]
  obtain ⟨L', R, r1, r2⟩ := sm0_get I ha hk
  obtain ⟨Z, eL, eL', hZ⟩ := perm_back r1 r2
  have ed : (L'.map fun p => p.2.data) = L.map fun z => z.2.data := by
    have h1 : (L'.map fun p => p.2.data) = (L'.map (·.2)).map NestedKey.data := by rw [List.map_map]; rfl
    have h2 : (L.map fun p => p.2.data) = (L.map (·.2)).map NestedKey.data := by rw [List.map_map]; rfl
    rw [h1, h2, r2]
  refine sorted_setM R (I.ok.hd hc) (fun p hp => ?_) (by rw [ed]; exact al) (by rw [ed]; exact so) (fun p hp => ?_) hu fun s' p out c L1 k g o hp hg pm eo => ?_
  · obtain ⟨z, hz, e1, e2⟩ := zip_vals r1 r2 p hp
    rw [e2]
    exact Dp.reads I _ _ _ (hk z hz).dp e1
  · obtain ⟨z, hz, e1, e2⟩ := zip_vals r1 r2 p hp
    rw [e2]
    exact (hk z hz).deep
  · rw [eL'] at pm
    obtain ⟨Z1, e1, p1⟩ := perm_map pm Z rfl
    have em : (Z1.mergeSort (dataLe false fun z => z.2.2.data)).map (·.2) = L1.mergeSort (dataLe false fun p => p.2.data) := by
      rw [e1]
      exact List.map_mergeSort (r := dataLe false fun z : (V × NestedKey) × (Value × NestedKey) => z.2.2.data) (s := dataLe false fun p : Value × NestedKey => p.2.data) (f := fun z : (V × NestedKey) × (Value × NestedKey) => z.2) fun _ _ _ _ => rfl
    have mZ : ∀ z ∈ Z1, RelV z.1.1 z.2.1 ∧ z.2.2 = z.1.2 := fun z hz => hZ z (p1.mem_iff.mp hz)
    have eV : (Z1.mergeSort (dataLe false fun z => z.2.2.data)).map (·.1) = (Z1.map (·.1)).mergeSort (dataLe false fun p => p.2.data) := by
      refine List.map_mergeSort (r := dataLe false fun z : (V × NestedKey) × (Value × NestedKey) => z.2.2.data) (s := dataLe false fun p : V × NestedKey => p.2.data) (f := fun z : (V × NestedKey) × (Value × NestedKey) => z.1) fun x hx y hy => ?_
      rw [PySem.W.dataLe_eq, PySem.W.dataLe_eq]
      dsimp only
      rw [(mZ x hx).2, (mZ y hy).2]
    have mS : ∀ z ∈ Z1.mergeSort (dataLe false fun z => z.2.2.data), RelV z.1.1 z.2.1 := fun z hz => (mZ z ((List.mergeSort_perm _ _).mem_iff.mp hz)).1
    have hv : Vals (((Z1.map (·.1)).mergeSort (dataLe false fun p => p.2.data)).map (·.1)) out := by
      rw [eo, ← em, ← eV, List.map_map, List.map_map]
      exact vals_map _ mS
    have hn : H p = none := I.hok.fresh hp
    have hlen : (((Z1.map (·.1)).mergeSort (dataLe false fun p => p.2.data)).map (·.1)).length ≤ sizeLine := by
      obtain ⟨_, _, _, _, _, _, _, _, _, _, _, fw, _⟩ := R.ob
      rw [List.length_map, List.length_mergeSort, List.length_map, p1.length_eq, ← List.length_map (·.2), ← eL', sizeLine_eq]
      omega
    have J : Inv X pins σ (upd H p (.lst (((Z1.map (·.1)).mergeSort (dataLe false fun p => p.2.data)).map (·.1)))) { s with heap := s'.heap, gens := s'.gens, drawn := s'.drawn, toks := s'.toks } :=
      I.call (ch := []) (Un.laid k hp hn) (I.hok.laid k hp ⟨hlen, out, c, hv, hg⟩) (by rw [g]; exact I.bare) (fun _ z => nomatch z)
    have e : s' = { s with heap := s'.heap, gens := s'.gens, drawn := s'.drawn, toks := s'.toks } := by
      cases s'
      cases s
      cases o
      rfl
    rw [e]
    exact ⟨.ref p, _, J, rfl, q (Z1.map (·.1)) p (by rw [eL]; exact p1.map _) hn⟩
end
end PLS

/-! Sets of keys in the pure layer: sorted(set(xs)), len(set(xs)). -/
namespace PL
open PySem PySem.Spec PyProof.Rows L2 PLS
open PySem.W (dataLe dataLt alike AllAlike EachIs)
mutual
def toK : Pv → NestedKey
  | .int i => .num i | .str x => .text x | .tup xs => .tup (toKs xs) | _ => .none
def toKs : List Pv → List NestedKey
  | [] => []
  | p :: ps => toK p :: toKs ps
end
mutual
/-- a key: whole numbers, texts, tuples of keys -/
def isK : Pv → Bool
  | .int _ => true | .str _ => true | .tup xs => isKs xs | _ => false
def isKs : List Pv → Bool
  | [] => true
  | p :: ps => isK p && isKs ps
end
mutual
theorem toK_inj : ∀ x y : Pv, isK x = true → isK y = true → toK x = toK y → x = y
  | .int i, y, _, hy, e => by
    cases y with
    | int j => simp only [toK] at e; injection e with e; rw [e]
    | str z => simp only [toK] at e; cases e
    | tup ys => simp only [toK] at e; cases e
    | _ => simp [isK] at hy
  | .str x, y, _, hy, e => by
    cases y with
    | int j => simp only [toK] at e; cases e
    | str z => simp only [toK] at e; injection e with e; rw [e]
    | tup ys => simp only [toK] at e; cases e
    | _ => simp [isK] at hy
  | .tup xs, y, hx, hy, e => by
    cases y with
    | int j => simp only [toK] at e; cases e
    | str z => simp only [toK] at e; cases e
    | tup ys =>
      simp only [toK] at e
      injection e with e
      rw [toKs_inj xs ys (by simpa [isK] using hx) (by simpa [isK] using hy) e]
    | _ => simp [isK] at hy
  | .non, _, h, _, _ => by simp [isK] at h
  | .bl _, _, h, _, _ => by simp [isK] at h
  | .lst _, _, h, _, _ => by simp [isK] at h
  | .dct _ _, _, h, _, _ => by simp [isK] at h
  | .ref _, _, h, _, _ => by simp [isK] at h
  | .ty _, _, h, _, _ => by simp [isK] at h
  | .scr _, _, h, _, _ => by simp [isK] at h
theorem toKs_inj : ∀ xs ys : List Pv, isKs xs = true → isKs ys = true → toKs xs = toKs ys → xs = ys
  | [], [], _, _, _ => rfl
  | [], _ :: _, _, _, e => by simp [toKs] at e
  | _ :: _, [], _, _, e => by simp [toKs] at e
  | x :: xs, y :: ys, hx, hy, e => by
    simp only [isKs, Bool.and_eq_true] at hx hy
    simp only [toKs] at e
    injection e with e1 e2
    rw [toK_inj x y hx.1 hy.1 e1, toKs_inj xs ys hx.2 hy.2 e2]
end
mutual
theorem toK_data : ∀ x : Pv, isK x = true → (toK x).data = toD x
  | .int i, _ => by rw [toK, NestedKey.data, toD]
  | .str x, _ => by rw [toK, NestedKey.data, toD]
  | .tup xs, h => by rw [toK, NestedKey.data, toD, toKs_data xs (by simpa [isK] using h)]
  | .non, h => by simp [isK] at h
  | .bl _, h => by simp [isK] at h
  | .lst _, h => by simp [isK] at h
  | .dct _ _, h => by simp [isK] at h
  | .ref _, h => by simp [isK] at h
  | .ty _, h => by simp [isK] at h
  | .scr _, h => by simp [isK] at h
theorem toKs_data : ∀ xs : List Pv, isKs xs = true → NestedKey.datas (toKs xs) = toDs xs
  | [], _ => by rw [toKs, NestedKey.datas, toDs]
  | x :: xs, h => by
    simp only [isKs, Bool.and_eq_true] at h
    rw [toKs, NestedKey.datas, toDs, toK_data x h.1, toKs_data xs h.2]
end
mutual
theorem isK_isD : ∀ x : Pv, isK x = true → isD x = true
  | .int i, _ => by rw [isD]
  | .str x, _ => by rw [isD]
  | .tup xs, h => by rw [isD]; exact isKs_isDs xs (by simpa [isK] using h)
  | .non, h => by simp [isK] at h
  | .bl _, h => by simp [isK] at h
  | .lst _, h => by simp [isK] at h
  | .dct _ _, h => by simp [isK] at h
  | .ref _, h => by simp [isK] at h
  | .ty _, h => by simp [isK] at h
  | .scr _, h => by simp [isK] at h
theorem isKs_isDs : ∀ xs : List Pv, isKs xs = true → isDs xs = true
  | [], _ => rfl
  | x :: xs, h => by
    simp only [isKs, Bool.and_eq_true] at h
    rw [isDs, isK_isD x h.1, isKs_isDs xs h.2]
    rfl
end
/-- carried by value, or a tuple -/
def kOk (m : Bool) : Pv → Prop
  | .int _ => m = false
  | .str _ => m = false
  | .tup xs => m = true ∧ isKs xs = true ∧ (toK (.tup xs)).depth ≤ 8
  | _ => False
theorem kOk.isK {m : Bool} {x : Pv} (h : kOk m x) : isK x = true := by
  cases x with
  | int i => rfl
  | str x => rfl
  | tup xs => rw [PL.isK]; exact h.2.1
  | _ => exact (show False from h).elim
theorem kOk.kv {m : Bool} {x : Pv} {K : PySem.W.Frag} {H : Hp} {S : Sto} {v : V} (h : kOk m x) (r : RepV K H S x v) : KV m K H (toK x) v := by
  cases x with
  | int i =>
    obtain rfl : m = false := h
    have e : v = .int i := r
    exact .inl ⟨i, by rw [toK], e⟩
  | str x =>
    obtain rfl : m = false := h
    have e : v = .str x := r
    exact .inr ⟨x, by rw [toK], e⟩
  | tup xs =>
    obtain ⟨rfl, h1, h2⟩ := h
    have hd := dp_of (.tup xs) v r (isK_isD _ (by rw [PL.isK]; exact h1))
    obtain ⟨a, vs, e1, _⟩ := r
    refine ⟨⟨a, e1⟩, h2, ?_⟩
    rw [toK_data _ (by rw [PL.isK]; exact h1)]
    exact hd
  | _ => exact (show False from h).elim
def setOk (xs : List Pv) : Prop := (∃ m, ∀ x ∈ xs, kOk m x) ∧ ∃ D : List Pv, D.length < 75 ∧ ∀ x ∈ xs, x ∈ D
/-- ys: what is in xs, each once -/
def setOf (xs ys : List Pv) : Prop := ys.Nodup ∧ ∀ y, y ∈ ys ↔ y ∈ xs
def sqP (S : Sto) : Pv → Option (List Pv)
  | .tup xs => some xs
  | x => rdL S x
theorem sqP_rep {K : PySem.W.Frag} {H : Hp} {S : Sto} (rs : RepS K H S) {p : Pv} {v : V} {xs : List Pv} (h : RepV K H S p v) (e : sqP S p = some xs) : ∃ a vs, v = .ref a ∧ (SqL K H a vs ∨ SqT K H a vs) ∧ RepVs K H S xs vs := by
  by_cases q : ∃ ys, p = .tup ys
  · obtain ⟨ys, rfl⟩ := q
    have e' : ys = xs := by simpa [sqP] using e
    subst e'
    obtain ⟨t, vs, e1, hq, r⟩ := h
    exact ⟨t, vs, e1, .inr hq, r⟩
  · have e' : rdL S p = some xs := by
      rw [← e]
      cases p <;> first | rfl | exact (q ⟨_, rfl⟩).elim
    obtain ⟨a, vs, e1, hq, r⟩ := rdL_rep rs h e'
    exact ⟨a, vs, e1, .inl hq, r⟩
def oSortedSet : On := fun ps S Q => match ps with
  | [x] => (match sqP S x with | some xs => setOk xs ∧ AllAlike (xs.map toD) ∧ PySem.W.Sortable (xs.map toD) ∧ ∀ ys, setOf xs ys → Q (.lst (sortP ys)) S | none => False)
  | _ => False
def oLenSet : On := fun ps S Q => match ps with
  | [x] => (match sqP S x with | some xs => setOk xs ∧ ∀ ys, setOf xs ys → Q (.int ys.length) S | none => False)
  | _ => False
/-- a row out of keyed values as a row of the pure ones -/
theorem row_of {K : PySem.W.Frag} {H : Hp} {S : Sto} {xs : List Pv} {vs : List V} (r : RepVs K H S xs vs) : ∀ (L : Vk), (∀ z ∈ L, z ∈ vs.zip (xs.map toK)) → ∃ ys : List Pv, L.map (·.2) = ys.map toK ∧ RepVs K H S ys (L.map (·.1)) ∧ ∀ y ∈ ys, y ∈ xs
  | [], _ => ⟨[], rfl, rfl, fun y hy => (by cases hy)⟩
  | z :: L, h => by
    obtain ⟨ys, a, b, c⟩ := row_of r L fun y hy => h y (List.mem_cons_of_mem _ hy)
    have hz := h z List.mem_cons_self
    rw [List.zip_map_right] at hz
    obtain ⟨q, hq, e⟩ := List.mem_map.mp hz
    have rq := r.zip q hq
    refine ⟨q.2 :: ys, ?_, ⟨z.1, L.map (·.1), rfl, ?_, b⟩, fun y hy => ?_⟩
    · rw [List.map_cons, List.map_cons, a, ← e]
      rfl
    · rw [← e]
      exact rq
    · rcases List.mem_cons.mp hy with rfl | hy
      · exact (List.of_mem_zip hq).2
      · exact c y hy
theorem nodup_map_of {f : Pv → NestedKey} : ∀ {l : List Pv}, (l.map f).Nodup → l.Nodup := fun {l} h => List.Pairwise.of_map f (fun _ _ hne e => hne (congrArg f e)) h
theorem set_row {K : PySem.W.Frag} {H : Hp} {S : Sto} {xs : List Pv} {vs : List V} (r : RepVs K H S xs vs) (hk : ∀ x ∈ xs, isK x = true) {L : Vk} (h1 : ∀ z ∈ L, z ∈ vs.zip (xs.map toK)) (h2 : (L.map (·.2)).Nodup) (h3 : ∀ z ∈ vs.zip (xs.map toK), z.2 ∈ L.map (·.2)) :
    ∃ ys : List Pv, setOf xs ys ∧ L.map (·.2) = ys.map toK ∧ RepVs K H S ys (L.map (·.1)) := by
  obtain ⟨ys, a, b, c⟩ := row_of r L h1
  refine ⟨ys, ⟨nodup_map_of (by rw [← a]; exact h2), fun y => ⟨c y, fun hy => ?_⟩⟩, a, b⟩
  have hy2 : toK y ∈ (vs.zip (xs.map toK)).map (·.2) := by
    rw [List.map_snd_zip (by rw [List.length_map, r.len]; exact Nat.le_refl _)]
    exact List.mem_map.mpr ⟨y, hy, rfl⟩
  obtain ⟨z, hz, ez⟩ := List.mem_map.mp hy2
  have hm := h3 z hz
  rw [ez, a] at hm
  obtain ⟨y', hy', e⟩ := List.mem_map.mp hm
  rw [← toK_inj y' y (hk _ (c _ hy')) (hk y hy) e]
  exact hy'
section
variable {X : Cx} {S0 : Sto} {H0 : Hp} {a : Expr} {fs : PFs} {pos p p2 q : Pos}
theorem zip_fst {K : PySem.W.Frag} {H : Hp} {S : Sto} {xs : List Pv} {vs : List V} (r : RepVs K H S xs vs) : (vs.zip (xs.map toK)).map (·.1) = vs := List.map_fst_zip (by rw [List.length_map, r.len]; exact Nat.le_refl _)
theorem kvs_of {K : PySem.W.Frag} {H : Hp} {S : Sto} {xs : List Pv} {vs : List V} {m : Bool} (r : RepVs K H S xs vs) (h : ∀ x ∈ xs, kOk m x) : KVs m K H (vs.zip (xs.map toK)) := fun z hz => by
  rw [List.zip_map_right] at hz
  obtain ⟨y, hy, e⟩ := List.mem_map.mp hz
  rw [← e]
  exact (h y.2 (List.of_mem_zip hy).2).kv (r.zip y hy)
theorem dset {K : PySem.W.Frag} {xs D : List Pv} {vs : List V} (hd : ∀ x ∈ xs, x ∈ D) : ∀ z ∈ vs.zip (xs.map toK), z.2 ∈ D.map toK := fun z hz => by
  obtain ⟨x, hx, e⟩ := List.mem_map.mp (List.of_mem_zip hz).2
  exact List.mem_map.mpr ⟨x, hd x hx, e⟩
theorem KV.upd {m : Bool} {K : PySem.W.Frag} {H : Hp} {S : Sto} {a : Addr} {o : HO} {x : Pv} {v : V} (rs : RepS K H S) (hn : H a = none) (h : kOk m x) (r : RepV K H S x v) : KV m K (upd H a o) (toK x) v :=
  h.kv (RepV.ext rs (Ext.newT (K := K) hn) _ _ r)
theorem kvs_upd {m : Bool} {K : PySem.W.Frag} {H : Hp} {S : Sto} {xs : List Pv} {vs : List V} {a : Addr} {o : HO} (rs : RepS K H S) (hn : H a = none) (r : RepVs K H S xs vs) (h : ∀ x ∈ xs, kOk m x) : KVs m K (upd H a o) (vs.zip (xs.map toK)) :=
  kvs_of (RepVs.ext rs (Ext.newT (K := K) hn) _ _ r) h
theorem pv_sortedSet (hc : X.calm = true) (hu : X.A.units + 64 < cLine) (hm : X.mg "sorted" = none) (hm2 : X.mg "set" = none) (ha : PVs X S0 H0 [a] fs) (hg : Gl X "sorted" := by rfl) (hg2 : Gl X "set" := by rfl)
    (he : starEach [.Call (.Name "set" p2) [a] [] q] X.env = (false, eval (.Call (.Name "set" p2) [a] [] q) X.env) :: starEach [] X.env := by rfl) (hpl : (backTo pos (starEach [] X.env)).any (·.1) = false := by rfl)
    (he2 : starEach [a] X.env = (false, eval a X.env) :: starEach [] X.env := by rfl) (hpl2 : (backTo q (starEach [] X.env)).any (·.1) = false := by rfl) :
    PV X S0 H0 (.Call (.Name "sorted" p) [.Call (.Name "set" p2) [a] [] q] [] pos) (fN oSortedSet fs) := by
  refine ⟨fN_mono (fun x S Q Q' h q => ?_) ha, PE.imp (pe_callB (cr_sortedM hc hu) hg hm (by decide +kernel) (pa_cons (pe_callTy (cr_setM hc hu) hg2 hm2 (by decide +kernel) ha.pa (by decide) (by decide) he2 hpl2) pa_nil he) (by decide) (by decide) he hpl) fun σ H Q ⟨ρ, S, re, rs, ex, h⟩ => ?_⟩
  · unfold oSortedSet at q ⊢
    split at q
    · split at q
      · exact ⟨q.1, q.2.1, q.2.2.1, fun ys hy => h _ _ (q.2.2.2 ys hy)⟩
      · exact q
    · exact q
  · refine ⟨ρ, S, re, rs, ex, ha.mono _ _ _ _ (fun ps S1 h vs H1 rv rs1 ex1 => ?_) h⟩
    unfold oSortedSet at h
    split at h
    · obtain ⟨v1, rfl, r1⟩ := rv.one
      split at h
      · rename_i xs e0
        obtain ⟨⟨⟨m, hk⟩, D, hD, hd⟩, al, so, h⟩ := h
        obtain ⟨t, vs, e1, hq, r⟩ := sqP_rep rs1 r1 e0
        have zf := zip_fst r
        have hkk : ∀ x ∈ xs, isK x = true := fun x hx => (hk x hx).isK
        refine ⟨m, t, vs.zip (xs.map toK), D.map toK, by rw [e1], by rw [zf]; exact hq, kvs_of r hk, by rw [List.length_map]; exact hD, dset (K := X.K) hd, fun b L hn l1 l2 l3 => ?_⟩
        have kL : KVs m X.K (upd H1 b (SetMO m X.w b L)) L := fun z hz => kvs_upd rs1 hn r hk z (l1 z hz)
        have dl : ∀ z ∈ L, ∃ x ∈ xs, z.2.data = toD x := fun z hz => by
          obtain ⟨x, hx, e⟩ := List.mem_map.mp (List.of_mem_zip (l1 z hz)).2
          exact ⟨x, hx, by rw [← e, toK_data x (hkk x hx)]⟩
        refine ⟨m, b, L, rfl, upd_same, kL, ?_, ?_, fun L1 p pm np => ?_⟩
        · intro d hd d' hd'
          obtain ⟨z, hz, rfl⟩ := List.mem_map.mp hd
          obtain ⟨z', hz', rfl⟩ := List.mem_map.mp hd'
          obtain ⟨x, hx, e⟩ := dl z hz
          obtain ⟨x', hx', e'⟩ := dl z' hz'
          rw [e, e']
          exact al _ (List.mem_map.mpr ⟨x, hx, rfl⟩) _ (List.mem_map.mpr ⟨x', hx', rfl⟩)
        · have mm : ∀ d ∈ L.map fun z => z.2.data, d ∈ xs.map toD := fun d hd => by
            obtain ⟨z, hz, rfl⟩ := List.mem_map.mp hd
            obtain ⟨x, hx, e⟩ := dl z hz
            rw [e]
            exact List.mem_map.mpr ⟨x, hx, rfl⟩
          rcases so with s1 | s1
          · exact .inl fun d hd => s1 d (mm d hd)
          · exact .inr fun d hd => s1 d (mm d hd)
        · have ml : ∀ z ∈ L1, z ∈ L := fun z hz => pm.mem_iff.mp hz
          obtain ⟨ys, sy, ek, ry⟩ := set_row r hkk (L := L1) (fun z hz => l1 z (ml z hz)) ((pm.map (·.2)).nodup_iff.mpr l2) fun z hz => (pm.map (·.2)).mem_iff.mpr (l3 z hz)
          have ext1 : Ext S1 H1 S1 (upd H1 b (SetMO m X.w b L)) := Ext.newT (K := X.K) hn
          have rs2 : RepS X.K (upd H1 b (SetMO m X.w b L)) S1 := rs1.newT hn
          have ry2 := RepVs.ext rs1 ext1 _ _ ry
          have em : (L1.mergeSort (dataLe false fun z => z.2.data)).map (·.1) = (((L1.map (·.1)).zip (toDs ys)).mergeSort (dataLe false (·.2))).map (·.1) := by
            have e3 : (L1.map (·.1)).zip (toDs ys) = L1.map fun z => (z.1, z.2.data) := by
              have e4 : toDs ys = L1.map fun z => z.2.data := by
                rw [toDs_map]
                have e5 : (L1.map fun z => z.2.data) = (L1.map (·.2)).map NestedKey.data := by rw [List.map_map]; rfl
                rw [e5, ek, List.map_map]
                exact List.map_congr_left fun y hy => (toK_data y (hkk y ((sy.2 y).mp hy))).symm
              rw [e4, List.zip_map']
            rw [e3, ← List.map_mergeSort (r := dataLe false fun z : V × NestedKey => z.2.data) (f := fun z : V × NestedKey => (z.1, z.2.data)) (fun _ _ _ _ => rfl), List.map_map]
            rfl
          rw [em]
          obtain ⟨a1, a2, a3⟩ := newL_k rs2 np (sort_rep ry2)
          exact h ys sy (.ref p) _ a1 a2 (ex1.trans (ext1.trans a3))
      · exact h.elim
    · exact h.elim
theorem pv_lenSet (hc : X.calm = true) (hu : X.A.units + 64 < cLine) (hm : X.mg "len" = none) (hm2 : X.mg "set" = none) (ha : PVs X S0 H0 [a] fs) (hg : Gl X "len" := by rfl) (hg2 : Gl X "set" := by rfl)
    (he : starEach [.Call (.Name "set" p2) [a] [] q] X.env = (false, eval (.Call (.Name "set" p2) [a] [] q) X.env) :: starEach [] X.env := by rfl) (hpl : (backTo pos (starEach [] X.env)).any (·.1) = false := by rfl)
    (he2 : starEach [a] X.env = (false, eval a X.env) :: starEach [] X.env := by rfl) (hpl2 : (backTo q (starEach [] X.env)).any (·.1) = false := by rfl) :
    PV X S0 H0 (.Call (.Name "len" p) [.Call (.Name "set" p2) [a] [] q] [] pos) (fN oLenSet fs) := by
  refine ⟨fN_mono (fun x S Q Q' h q => ?_) ha, PE.imp (pe_callB cr_lenM hg hm (by decide +kernel) (pa_cons (pe_callTy (cr_setM hc hu) hg2 hm2 (by decide +kernel) ha.pa (by decide) (by decide) he2 hpl2) pa_nil he) (by decide) (by decide) he hpl) fun σ H Q ⟨ρ, S, re, rs, ex, h⟩ => ?_⟩
  · unfold oLenSet at q ⊢
    split at q
    · split at q
      · exact ⟨q.1, fun ys hy => h _ _ (q.2 ys hy)⟩
      · exact q
    · exact q
  · refine ⟨ρ, S, re, rs, ex, ha.mono _ _ _ _ (fun ps S1 h vs H1 rv rs1 ex1 => ?_) h⟩
    unfold oLenSet at h
    split at h
    · obtain ⟨v1, rfl, r1⟩ := rv.one
      split at h
      · rename_i xs e0
        obtain ⟨⟨⟨m, hk⟩, D, hD, hd⟩, h⟩ := h
        obtain ⟨t, vs, e1, hq, r⟩ := sqP_rep rs1 r1 e0
        have zf := zip_fst r
        have hkk : ∀ x ∈ xs, isK x = true := fun x hx => (hk x hx).isK
        refine ⟨m, t, vs.zip (xs.map toK), D.map toK, by rw [e1], by rw [zf]; exact hq, kvs_of r hk, by rw [List.length_map]; exact hD, dset (K := X.K) hd, fun b L hn l1 l2 l3 => ?_⟩
        have kL : KVs m X.K (upd H1 b (SetMO m X.w b L)) L := fun z hz => kvs_upd rs1 hn r hk z (l1 z hz)
        refine ⟨m, b, L, rfl, upd_same, kL, ?_⟩
        obtain ⟨ys, sy, ek, ry⟩ := set_row r hkk (L := L) l1 l2 l3
        have hl : L.length = ys.length := by rw [← List.length_map (·.2), ek, List.length_map]
        rw [hl]
        exact h ys sy (.int ys.length) _ rfl (rs1.newT hn) (ex1.trans (Ext.newT (K := X.K) hn))
      · exact h.elim
    · exact h.elim
end
end PL

/-! Rows that rise, against sorted(set(row)); shifts and zones: plain. -/
namespace PL
open PySem PySem.Spec PyProof.Rows L2
def strictI (is : List Int) : Bool := (is.zip is.tail).all fun p => decide (p.1 < p.2)
def strictS (ss : List Str) : Bool := (ss.zip ss.tail).all fun p => strLt p.1 p.2
theorem strictI_pw (is : List Int) : strictI is = true ↔ is.Pairwise (· < ·) := by
  have e := adj_pw (r := fun a b : Int => decide (a < b)) (fun a b c h h' => by rw [decide_eq_true_eq] at *; omega) is
  unfold strictI
  rw [e]
  exact ⟨fun z => z.imp fun {a b} w => of_decide_eq_true w, fun z => z.imp fun {a b} w => decide_eq_true w⟩
theorem strictS_pw (ss : List Str) : strictS ss = true ↔ ss.Pairwise fun a b => strLt a b = true := adj_pw (r := strLt) (fun a b c h h' => strLt_trans h h') ss
theorem risP_int (is : List Int) : risP (is.map .int) = strictI is := by
  unfold risP strictI
  rw [← List.map_tail, List.zip_map, List.all_map]
  rfl
theorem risP_strS (ss : List Str) : risP (ss.map .str) = strictS ss := risP_str ss
theorem sortI_perm (js : List Int) : (sortI js).Perm js := List.mergeSort_perm _ _
theorem sortS_perm (js : List Str) : (sortS js).Perm js := List.mergeSort_perm _ _
theorem nodup_perm {α : Type} {a b : List α} (ha : a.Nodup) (hb : b.Nodup) (h : ∀ x, x ∈ a ↔ x ∈ b) : a.Perm b := (List.perm_ext_iff_of_nodup ha hb).mpr h
theorem eq_sortI {is js : List Int} (nd : js.Nodup) (hm : ∀ x, x ∈ js ↔ x ∈ is) : decide (is = sortI js) = strictI is := by
  rw [Bool.eq_iff_iff, decide_eq_true_eq, strictI_pw]
  constructor
  · intro e
    rw [e]
    have n2 : (sortI js).Nodup := (sortI_perm js).nodup_iff.mpr nd
    exact ((sortI_pw js).and n2).imp fun {a b} ⟨z, y⟩ => by omega
  · intro h
    have n1 : is.Nodup := h.imp fun {a b} z => by omega
    have pm : (sortI js).Perm is := (sortI_perm js).trans (nodup_perm nd n1 hm)
    refine (pm.eq_of_pairwise (le := fun a b : Int => a ≤ b) (fun a b _ _ h1 h2 => by omega) (sortI_pw js) (h.imp fun {a b} z => by omega)).symm
theorem eq_sortS {is js : List Str} (nd : js.Nodup) (hm : ∀ x, x ∈ js ↔ x ∈ is) : decide (is = sortS js) = strictS is := by
  rw [Bool.eq_iff_iff, decide_eq_true_eq, strictS_pw]
  constructor
  · intro e
    rw [e]
    have n2 : (sortS js).Nodup := (sortS_perm js).nodup_iff.mpr nd
    exact ((sortS_pw js).and n2).imp fun {a b} ⟨z, y⟩ => leS_lt z y
  · intro h
    have n1 : is.Nodup := h.imp fun {a b} z => by
      rintro rfl
      rw [strLt_irr] at z
      cases z
    have pm : (sortS js).Perm is := (sortS_perm js).trans (nodup_perm nd n1 hm)
    refine (pm.eq_of_pairwise (le := fun a b : Str => leS a b = true) (fun a b _ _ h1 h2 => ?_) (sortS_pw js) (h.imp fun {a b} z => lt_leS z)).symm
    unfold leS at h1 h2
    rw [decide_eq_true_eq] at h1 h2
    exact str_ext (List.le_antisymm h1 h2)
theorem setOf_map {α : Type} {f : α → Pv} (inj : ∀ a b, f a = f b → a = b) {is : List α} {ys : List Pv} (h : setOf (is.map f) ys) : ∃ js : List α, ys = js.map f ∧ js.Nodup ∧ ∀ x, x ∈ js ↔ x ∈ is := by
  obtain ⟨nd, hm⟩ := h
  have key : ∀ ys : List Pv, (∀ y ∈ ys, y ∈ is.map f) → ∃ js : List α, ys = js.map f := by
    intro ys
    induction ys with
    | nil => intro _; exact ⟨[], rfl⟩
    | cons y ys ih =>
      intro h
      obtain ⟨x, _, e⟩ := List.mem_map.mp (h y List.mem_cons_self)
      obtain ⟨js, e2⟩ := ih fun z hz => h z (List.mem_cons_of_mem _ hz)
      exact ⟨x :: js, by rw [e2, ← e]; rfl⟩
  obtain ⟨js, rfl⟩ := key ys fun y hy => (hm y).mp hy
  refine ⟨js, rfl, List.Pairwise.of_map f (fun _ _ hne e => hne (congrArg f e)) nd, fun x => ?_⟩
  have h1 := hm (f x)
  have mm : ∀ l : List α, f x ∈ l.map f ↔ x ∈ l := fun l => by
    rw [List.mem_map]
    exact ⟨fun ⟨z, hz, e⟩ => inj _ _ e ▸ hz, fun h => ⟨x, h, rfl⟩⟩
  rw [mm, mm] at h1
  exact h1
theorem setOk_int {is : List Int} (h : is.length < 75) : setOk (is.map .int) := ⟨⟨false, fun x hx => by obtain ⟨i, _, rfl⟩ := List.mem_map.mp hx; exact rfl⟩, is.map .int, by rw [List.length_map]; exact h, fun x hx => hx⟩
theorem setOk_str {ss : List Str} (h : ss.length < 75) : setOk (ss.map .str) := ⟨⟨false, fun x hx => by obtain ⟨i, _, rfl⟩ := List.mem_map.mp hx; exact rfl⟩, ss.map .str, by rw [List.length_map]; exact h, fun x hx => hx⟩
/-! ### pairs -/
def tup2 (t : Pv × Pv) : Pv := .tup [t.1, t.2]
theorem tup2_of : ∀ {ms : List Pv}, ms.all (tupN 2) = true → ∃ ts : List (Pv × Pv), ms = ts.map tup2
  | [], _ => ⟨[], rfl⟩
  | m :: ms, h => by
    have h : tupN 2 m = true ∧ ms.all (tupN 2) = true := by simpa using h
    obtain ⟨ts, rfl⟩ := tup2_of h.2
    cases m with
    | tup ys =>
      match ys, h.1 with
      | [a, b], _ => exact ⟨(a, b) :: ts, rfl⟩
      | [], h => simp [tupN] at h
      | [_], h => simp [tupN] at h
      | _ :: _ :: _ :: _, h => simp [tupN] at h
    | _ => simp [tupN] at h
def inQ (l m : Int) : Pv → Bool
  | .int i => decide (l ≤ i) && decide (i ≤ m)
  | _ => false
def minQ (x : Pv) : Bool := inQ (-900) 900 x
/-- a shift -/
def sQ (t : Pv × Pv) : Bool := isIntP t.1 && minQ t.2
def intOf : Pv → Int
  | .int i => i
  | _ => 0
def strOf : Pv → Str
  | .str x => x
  | _ => ""
theorem all_int {α : Type} {f : α → Pv} : ∀ {ts : List α}, (∀ t ∈ ts, isIntP (f t) = true) → ts.map f = (ts.map fun t => intOf (f t)).map Pv.int
  | [], _ => rfl
  | t :: ts, h => by
    have h1 := h t List.mem_cons_self
    rw [List.map_cons, List.map_cons, List.map_cons, ← all_int fun x hx => h x (List.mem_cons_of_mem _ hx)]
    cases e : f t with
    | int i => rfl
    | _ => rw [e] at h1; cases h1
theorem all_str {α : Type} {f : α → Pv} : ∀ {ts : List α}, (∀ t ∈ ts, wordP (f t) = true) → ts.map f = (ts.map fun t => strOf (f t)).map Pv.str
  | [], _ => rfl
  | t :: ts, h => by
    have h1 := h t List.mem_cons_self
    rw [List.map_cons, List.map_cons, List.map_cons, ← all_str fun x hx => h x (List.mem_cons_of_mem _ hx)]
    cases e : f t with
    | str i => rfl
    | _ => rw [e] at h1; cases h1
def headZ (is : List Int) : Bool := match is with
  | i :: _ => decide (i = 0)
  | [] => false
def shiftsT (ts : List (Pv × Pv)) : Bool := ts.all sQ && (headZ (ts.map fun t => intOf t.1) && strictI (ts.map fun t => intOf t.1))
def pairsOf : List Pv → List (Pv × Pv)
  | [] => []
  | .tup [a, b] :: xs => (a, b) :: pairsOf xs
  | _ :: xs => pairsOf xs
theorem pairsOf_map : ∀ ts : List (Pv × Pv), pairsOf (ts.map tup2) = ts
  | [] => rfl
  | t :: ts => by
    show (t.1, t.2) :: pairsOf (ts.map tup2) = _
    rw [pairsOf_map ts]
def shiftsP : Pv → Bool
  | .tup xs => rowP 1 12 2 (.tup xs) && shiftsT (pairsOf xs)
  | _ => false
def zonesT (ts : List (Pv × Pv)) : Bool := (ts.all fun t => wordP t.1) && (strictS (ts.map fun t => strOf t.1) && ts.all fun t => shiftsP t.2)
def zonesP : Pv → Bool
  | .tup xs => rowP 0 8 2 (.tup xs) && zonesT (pairsOf xs)
  | _ => false
/-- what begins at nought and rises has nothing below nought -/
theorem rise_nn {is : List Int} (h : headZ is = true) (h2 : strictI is = true) : ∀ i ∈ is, 0 ≤ i := by
  cases is with
  | nil => intro i hi; cases hi
  | cons j is =>
    have h : j = 0 := of_decide_eq_true h
    have pw := List.pairwise_cons.mp ((strictI_pw _).mp h2)
    intro i hi
    rcases List.mem_cons.mp hi with rfl | hi
    · omega
    · have := pw.1 i hi
      omega
theorem shiftsT_day (ts : List (Pv × Pv)) : shiftsT ts = ((ts.all fun t => dayP t.1 && minQ t.2) && (headZ (ts.map fun t => intOf t.1) && strictI (ts.map fun t => intOf t.1))) := by
  unfold shiftsT
  cases hr : headZ (ts.map fun t => intOf t.1) && strictI (ts.map fun t => intOf t.1) with
  | false => rw [Bool.and_false, Bool.and_false]
  | true =>
    rw [Bool.and_true, Bool.and_true]
    rw [Bool.and_eq_true] at hr
    have nn := rise_nn hr.1 hr.2
    rw [Bool.eq_iff_iff, List.all_eq_true, List.all_eq_true]
    refine ⟨fun h t ht => ?_, fun h t ht => ?_⟩
    · have := h t ht
      unfold sQ at this
      rw [Bool.and_eq_true] at this ⊢
      refine ⟨?_, this.2⟩
      have n1 := nn (intOf t.1) (List.mem_map.mpr ⟨t, ht, rfl⟩)
      cases e : t.1 with
      | int i => rw [e] at n1; exact decide_eq_true n1
      | _ => rw [e] at this; cases this.1
    · have := h t ht
      unfold sQ
      rw [Bool.and_eq_true] at this ⊢
      refine ⟨?_, this.2⟩
      cases e : t.1 with
      | int i => rfl
      | _ => rw [e] at this; cases this.1
/-! ### rows of pairs -/
theorem row2 {a b : Nat} {x : Pv} (h : smP x = true) (e : rowP a b 2 x = true) : ∃ ts : List (Pv × Pv), x = .tup (ts.map tup2) ∧ a ≤ ts.length ∧ ts.length ≤ b ∧ ts.length ≤ 1000 ∧ ∀ t ∈ ts, smP t.1 = true ∧ smP t.2 = true := by
  cases x with
  | tup ms =>
    obtain ⟨hl, hs⟩ := smP_tup h
    have e : (decide (a ≤ ms.length) && decide (ms.length ≤ b) && ms.all (tupN 2)) = true := e
    rw [Bool.and_eq_true, Bool.and_eq_true] at e
    have h1 := of_decide_eq_true e.1.1
    have h2 := of_decide_eq_true e.1.2
    obtain ⟨ts, rfl⟩ := tup2_of e.2
    rw [List.length_map] at h1 h2 hl
    refine ⟨ts, rfl, h1, h2, hl, fun t ht => ?_⟩
    have := smPs_mem hs (tup2 t) (List.mem_map.mpr ⟨t, ht, rfl⟩)
    have := (smP_tup this).2
    simpa [smPs] using this
  | _ => cases e
theorem shiftsP_no {x : Pv} (e : rowP 1 12 2 x = false) : shiftsP x = false := by
  cases x with
  | tup ms => show (rowP 1 12 2 (.tup ms) && _) = false; rw [e]; rfl
  | _ => rfl
theorem shiftsP_map {ts : List (Pv × Pv)} (e : rowP 1 12 2 (.tup (ts.map tup2)) = true) : shiftsP (.tup (ts.map tup2)) = shiftsT ts := by
  show (rowP 1 12 2 (.tup (ts.map tup2)) && shiftsT (pairsOf (ts.map tup2))) = _
  rw [e, pairsOf_map]; rfl
theorem zonesP_no {x : Pv} (e : rowP 0 8 2 x = false) : zonesP x = false := by
  cases x with
  | tup ms => show (rowP 0 8 2 (.tup ms) && _) = false; rw [e]; rfl
  | _ => rfl
theorem zonesP_map {ts : List (Pv × Pv)} (e : rowP 0 8 2 (.tup (ts.map tup2)) = true) : zonesP (.tup (ts.map tup2)) = zonesT ts := by
  show (rowP 0 8 2 (.tup (ts.map tup2)) && zonesT (pairsOf (ts.map tup2))) = _
  rw [e, pairsOf_map]; rfl
theorem int_int {p : Pv} (h : isIntP p = true) : p = .int (intOf p) := by
  cases p with
  | int i => rfl
  | _ => cases h
theorem day_int {p : Pv} (h : dayP p = true) : p = .int (intOf p) := by
  cases p with
  | int i => rfl
  | _ => cases h
theorem word_str {p : Pv} (h : wordP p = true) : p = .str (strOf p) := by
  cases p with
  | str i => rfl
  | _ => cases h
theorem word_asc {p : Pv} (h : wordP p = true) : asc (strOf p) = true := by
  cases p with
  | str w =>
    have h : wordS w = true := h
    unfold wordS at h
    simp only [Bool.and_eq_true, decide_eq_true_eq] at h
    refine List.all_eq_true.mpr fun c hc => ?_
    have := List.all_eq_true.mp h.2 c hc
    unfold smallC at this
    simp only [Bool.and_eq_true, decide_eq_true_eq] at this
    exact decide_eq_true (by omega)
  | _ => cases h
/-- a list of ones for all that fail: empty just where none fails -/
theorem ones_empty {α : Type} (xs : List α) (c : α → Bool) : (toDs ((xs.filter fun t => !c t).map fun _ => Pv.int 1)).isEmpty = xs.all c := by
  rw [toDs_map, List.isEmpty_map, List.isEmpty_map]
  induction xs with
  | nil => rfl
  | cons x xs ih =>
    rw [List.all_cons, List.filter_cons]
    cases c x with
    | true => simpa using ih
    | false => rfl
theorem okD_ones {α : Type} (xs : List α) : okD (.lst (xs.map fun _ => Pv.int 1)) = true := by
  have := okD_lint (xs.map fun _ => (1 : Int))
  rw [List.map_map] at this
  exact this
/-- a test that is gone by: what comes behind it is looked at once -/
theorem if_rest {c : PFB} {A R : PFS} {D : Ends'} {ρ : Env'} {S : Sto} (I : Sto → Prop) (hR : ∀ S', I S' → R D ρ S') (h : ∀ kk : Bool → Sto → Prop, (∀ S', A { D with nx := R D } ρ S' → kk true S') → (∀ S', I S' → kk false S') → c ρ S kk) : gSeq (gIf c A gNext) R D ρ S := h _ (fun _ a => a) fun S' i => hR S' i
end PL

/-! Set comprehensions of keys (after the way of HandS.SetBool): len({..}), sorted({..}). -/
namespace PLS
open PySem PySem.Spec PyProof.Rows L2 PpSet
section
variable {X : Cx} {pins : List (Addr × Obj)} {σ : L2.St} {H : Hp} {s : Shared} {m : Bool}
/-- set.add of a key -/
theorem addM_ok {E : Value → Shared → Prop} {D : Addr} {L : Vk} {k : NestedKey} {v : V} {u : Value} {Q : Value → Shared → Prop} (I : Inv X pins σ H s) (hD : H D = some (SetMO m X.w D L)) (hL : KVs m X.K H L) (hv : KV m X.K H k v) (r : RelV v u) (hu : X.A.units + 64 < cLine) (few : L.length + 1 < 76)
    (h : ∀ s' L', (k ∈ L.map (·.2) → L' = L) → (k ∉ L.map (·.2) → L'.Perm ((v, k) :: L)) → Inv X pins σ (upd H D (SetMO m X.w D L')) s' → Q .none s') : wpAny (model X.prog X.w) X.A (call (.builtin "set.add") [.ref D, u]) Q E s := by
  obtain ⟨L1, S, r1, r2⟩ := sm0_get I hD hL
  obtain ⟨o, es, ep, t, ho, hex, hd, _⟩ := S.ob
  have hT : s.TypeIs (.ref D) "set" := ⟨o, ho, hex.1⟩
  have hk : KM m s.heap k u := hv.km I r
  have hlen : L1.length = L.length := by
    have := congrArg List.length r2
    simpa using this
  refine wpAny_call_entry F.slot_set_add hT F.entry_set_add ?_ (F.args_set_add_2 _ _)
  unfold Builtin.«set.add» Builtin.Frozenset.oneOther
  simp only [List.isEmpty_nil, bind_assoc]
  unfold Builtin.Frozenset.addrOf
  refine wpAny_bind (wpAny_pure ?_)
  try dsimp only
  refine wpAny_bind (wpAny_pure ?_)
  try dsimp only
  refine wpAny_bind ?_
  refine addM S hk (by first | omega | (show X.A.units + 1 + 8 < cLine; omega)) (by rw [hlen]; exact few) fun b h' L1' tk htk sb S' c1 c2 => ?_
  show wpAny _ _ (ret Value.none) _ _ _
  refine wpAny_pure ⟨_, rfl, ?_⟩
  have he : ∃ u, h'.get? D = some u := by
    obtain ⟨o, _, _, _, ho, _⟩ := S'.ob
    exact ⟨o, ho⟩
  have fin : ∀ L' : Vk, Vals (L'.map (·.1)) (L1'.map (·.1)) → L1'.map (·.2) = L'.map (·.2) → Inv X pins σ (upd H D (SetMO m X.w D L')) { s with heap := h', toks := tk } := fun L' a1 a2 =>
    I.write (e := D) (t' := tk) (by rw [hD]; trivial) (.inl rfl) (fun b u hb hu => (sb.2 b hb).trans hu) he (setMO_new ⟨L1', h', S', fun o e => e, a1, a2⟩)
  rcases Classical.em (k ∈ L.map (·.2)) with c | c
  · refine h _ L (fun _ => rfl) (fun z => absurd c z) ?_
    have := c1 (by rw [r2]; exact c)
    subst this
    exact fin L r1 r2
  · have pm := c2 (by rw [r2]; exact c)
    obtain ⟨Z, e1, e2, hZ⟩ := perm_back r1 r2
    obtain ⟨Z2, e3, pz⟩ := perm_map (f := fun z : (V × NestedKey) × (Value × NestedKey) => z.2) pm (((v, k), (u, k)) :: Z) (by rw [List.map_cons, e2])
    have hZ2 : ∀ z ∈ Z2, RelV z.1.1 z.2.1 ∧ z.2.2 = z.1.2 := fun z hz => by
      rcases List.mem_cons.mp (pz.mem_iff.mp hz) with rfl | hz
      · exact ⟨r, rfl⟩
      · exact hZ z hz
    refine h _ (Z2.map (·.1)) (fun z => absurd z c) (fun _ => ?_) (fin _ ?_ ?_)
    · have := pz.map (·.1)
      rw [List.map_cons, ← e1] at this
      exact this
    · rw [e3, List.map_map, List.map_map]
      exact vals_map Z2 fun z hz => (hZ2 z hz).1
    · rw [e3, List.map_map, List.map_map]
      exact List.map_congr_left fun z hz => (hZ2 z hz).2
end
/-- y is put into the set at D -/
def AdM (K : PySem.W.Frag) (w : World) (m : Bool) (D : Addr) (y : V) (H : Hp) (Nx : Hp → Prop) : Prop := ∃ (k : NestedKey) (L : Vk), KV m K H k y ∧ H D = some (SetMO m w D L) ∧ KVs m K H L ∧ L.length + 1 < 76 ∧ ∀ L', (k ∈ L.map (·.2) → L' = L) → (k ∉ L.map (·.2) → L'.Perm ((y, k) :: L)) → Nx (upd H D (SetMO m w D L'))
section
variable {X : Cx}
def tScM (K : PySem.W.Frag) (w : World) (wi : TI) (g : TG) (tt : TT) (te : TE) (vs : List Nat) : TE := fun σ H Q => wi σ H fun J H1 => ∀ D, H1 D = none → ∃ (md : Bool) (W : Nat → Nat → Hp → Prop), (∃ m, W 0 m (upd H1 D (SetMO md w D []))) ∧ ∀ i m H, W i m H →
  (J.stop i H ∧ Q (.ref D) H) ∨ (J.go i H ∧ ∃ Nx : Hp → Prop, (∀ H', Nx H' → ∃ m', m' < m ∧ W (i + 1) m' H') ∧ ∀ x H', J.yld i H x H' → g x (wipe σ vs) H' fun σ2 H2 => wipe σ2 vs = wipe σ vs ∧ tt σ2 H2 fun b H3 =>
    if b = true then te σ2 H3 fun y H4 => AdM K w md D y H4 Nx else Nx H3)
set_option maxHeartbeats 2000000 in
theorem scM_core {pins : List (Addr × Obj)} {s : Shared} {σ : L2.St} {H : Hp} {Q : VK} {elt tg iter : Expr} {ifs : List Expr} {scope : Scope} {own : List (PySem.Str × Nat)} {pos pos' : Pos} {wi : TI} {g : TG} {tt : TT} {te : TE} {use : Option (Value → Sem Unit)} {Qf : Value → Shared → Prop}
    (hc : X.calm = true) (hN : X.N.Nodup) (I : Inv X pins σ H s) (hi : PI X tg iter wi) (ok : BlkOk X.N X.env.scope scope own)
    (hg : ∀ (s : Shared) (H : Hp) (C : Addr) (cl : List (PySem.Str × Addr)) (fp : List Addr), PG (X.blk s H scope (compEnvC scope cl C X.env) fp) tg g) (ht : ∀ (s : Shared) (H : Hp) (C : Addr) (cl : List (PySem.Str × Addr)) (fp : List Addr), PTs (X.blk s H scope (compEnvC scope cl C X.env) fp) ifs tt)
    (he : ∀ (s : Shared) (H : Hp) (C : Addr) (cl : List (PySem.Str × Addr)) (fp : List Addr), PE (X.blk s H scope (compEnvC scope cl C X.env) fp) elt te) (hs : ∀ x, foldedSetIterable iter X.env x = pure x)
    (hu : X.A.units + 64 < cLine) (h : tScM X.K X.w wi g tt te (own.map (·.2)) σ H Q)
    (hRR : ∀ D C s' m H', Inv X pins σ H' s' → Q (.ref D) H' → s'.heap.Ns C m → FpOk X pins H' C → compPost (model X.prog X.w) X.A X.xe use Qf (.ref D) C (.ok .next) s') :
    wpAny (model X.prog X.w) X.A (comprehension (.SetComp elt [⟨tg, iter, ifs, 0⟩] scope pos) scope X.env pos' (newSet (.type "set")) false (eval iter X.env) use) Qf X.xe s := by
  have hfree : ∀ y ∈ scope.names, y.2 = .free → ∃ c, X.env.cells.lookup y.1 = some c := fun y hy e => by
    rcases ok.free y hy e with k | k
    · exact I.ok.has _ (.inl k)
    · exact I.ok.has _ (.inr k)
  refine wpAny_comprehension_free (use := use) rfl hs (closure_ok hfree) ok.kind (fun y hy e => by rw [ok.uniq y hy, e])
    (thn (hi.run pins s σ H _ I h) fun xv s1 hx => thn hx fun itv s2 h2 => ?_)
  obtain ⟨it, fp, tn, J, H2, e, I2, T, st2, f2, q⟩ := h2
  subst e
  refine newSet_ok (newEnv_comp ?_)
  generalize hD : s2.heap.objs.size = D
  have hDn : H2 D = none := I2.hok.fresh (Nat.le_of_eq hD)
  obtain ⟨md, W, ⟨m0, w0⟩, turn⟩ := q D hDn
  generalize hs3 : ({ s2 with heap := s2.heap.push { cls := .type "set", dict := none, data := .set #[] 0 (.fresh 0 0 (!X.w.params.followText "set-order")) } } : Shared) = s3
  have I3 : Inv X pins σ (upd H2 D (SetMO md X.w D [])) s3 := by
    rw [← hs3]
    refine I2.laid (t' := s2.toks) (fun b o e => Heap.get?_push_of_some _ e) (Nat.le_of_eq hD) ?_
    rw [← hD]
    exact setMO_new ⟨[], _, sm_fresh md (Heap.get?_push_size _ rfl), fun o e => e, .nil, rfl⟩
  have h3 : s3.heap = s2.heap.push { cls := .type "set", dict := none, data := .set #[] 0 (.fresh 0 0 (!X.w.params.followText "set-order")) } := by rw [← hs3]
  have sz : ∀ b ∈ fp, b < s2.heap.objs.size := fun b hb => by
    obtain ⟨o, e, _⟩ := T.obj _ _ st2 b hb
    exact Heap.lt_size e
  have f3 : ∀ b ∈ fp, FpOk X pins (upd H2 D (SetMO md X.w D [])) b ∧ b < s3.heap.objs.size := fun b hb => by
    have hlt := sz b hb
    refine ⟨⟨?_, (f2 b hb).2⟩, by rw [h3, Heap.size_push]; exact Nat.lt_succ_of_lt hlt⟩
    rw [upd_ne (by rw [← hD]; exact Nat.ne_of_lt hlt)]
    exact (f2 b hb).1
  have st3 : tn 0 s3.heap := T.keep _ _ _ st2 fun b _ o e => by rw [h3]; exact Heap.get?_push_of_some _ e
  have I4 := block_start I3 ok hN f3
  have pg := hg s3 (upd H2 D (SetMO md X.w D [])) s3.heap.objs.size (cellsFrom (s3.heap.objs.size + 1) scope.names (cloFrom X.env.cells scope.names [])) fp
  have pt := ht s3 (upd H2 D (SetMO md X.w D [])) s3.heap.objs.size (cellsFrom (s3.heap.objs.size + 1) scope.names (cloFrom X.env.cells scope.names [])) fp
  have pe := he s3 (upd H2 D (SetMO md X.w D [])) s3.heap.objs.size (cellsFrom (s3.heap.objs.size + 1) scope.names (cloFrom X.env.cells scope.names [])) fp
  show codeAny _ _ (.compStart (.SetComp elt [⟨tg, iter, ifs, 0⟩] scope pos) 0 (.ref it) (.ref D) (compEnvC scope (cellsFrom (s3.heap.objs.size + 1) scope.names (cloFrom X.env.cells scope.names [])) s3.heap.objs.size X.env)) (compPost (model X.prog X.w) X.A X.xe use Qf (.ref D) s3.heap.objs.size) { s3 with heap := pushCells (s3.heap.push { cls := .type "dict", data := .dict #[] }) scope.names }
  have nfp : ∀ b ∈ fp, (upd H2 D (SetMO md X.w D [])) b = none := fun b hb => (f3 b hb).1.1
  generalize hce : compEnvC scope (cellsFrom (s3.heap.objs.size + 1) scope.names (cloFrom X.env.cells scope.names [])) s3.heap.objs.size X.env = ce at I4 pg pt pe ⊢
  have cL : ce.locals = s3.heap.objs.size := by subst hce; rfl
  generalize hH3 : upd H2 D (SetMO md X.w D []) = H3 at I3 I4 pg pt pe w0 nfp f3
  generalize hs4 : ({ s3 with heap := pushCells (s3.heap.push { cls := .type "dict", data := .dict #[] }) scope.names } : Shared) = s4 at I4 ⊢
  have st4 : tn 0 s4.heap := T.keep _ _ _ st3 fun b _ o e => by rw [← hs4]; exact pushCells_keeps _ _ _ _ (Heap.get?_push_of_some _ e)
  have stat : ∀ {σ' : L2.St} {H' : Hp} {s' : Shared}, Inv (X.blk s3 H3 scope ce fp) [] σ' H' s' → (∀ b ∈ fp, H' b = none) → ∀ b ∈ fp, FpOk (X.blk s3 H3 scope ce fp) [] H' b := fun {σ' H' s'} I' hn b hb =>
    ⟨hn b hb, (I'.ok.exf b hb).1, I'.ok.exfs b hb, .inl hb, fun x c e => (I'.ok.exf b hb).2 x c e, fun p hp => absurd (show p ∈ ([] : List (Addr × Obj)) ++ [] from hp) (by simp)⟩
  have loop : codeAny (model X.prog X.w) X.A (.compLoop (.SetComp elt [⟨tg, iter, ifs, 0⟩] scope pos) 0 (.ref it) (.ref D) ce) (compPost (model X.prog X.w) X.A X.xe use Qf (.ref D) s3.heap.objs.size) s4 := by
    refine compLoopS_any (fun n s' => ∃ i H', Inv (X.blk s3 H3 scope ce fp) [] (wipe σ (own.map (·.2))) H' s' ∧ tn i s'.heap ∧ (∀ b ∈ fp, H' b = none) ∧ W i n H') ?_ m0 ⟨0, H3, I4, st4, nfp, w0⟩
    rintro n s5 ⟨i, H5, I5, st5, n5, w5⟩
    rcases turn i n H5 w5 with ⟨stop, qq⟩ | ⟨go, Nx, hNx, step⟩
    · have td := T.done (X.blk s3 H3 scope ce fp) rfl rfl rfl hc i [] s5 _ H5 (fun _ _ => False) I5 (stat I5 n5) st5 stop
      refine thnF td fun r s6 ⟨hr, I6⟩ => ?_
      subst hr
      have I7 : Inv X pins σ H5 s6 := I3.call' (ch := fp) I6.os I6.base I6.hok I6.bare fun b hb => ⟨(f3 b hb).1.2.2.2.1, (f3 b hb).1.2.1, (f3 b hb).1.2.2.2.2.1, (f3 b hb).1.2.2.2.2.2⟩
      have nC : H5 s3.heap.objs.size = none := by
        have z : H5 ce.locals = none := I6.free
        rw [cL] at z
        exact z
      obtain ⟨m, hn, _⟩ := I6.loc
      have hn : s6.heap.Ns ce.locals m := hn
      rw [cL] at hn
      exact hRR D s3.heap.objs.size s6 m H5 I7 qq hn (I3.fpOk (Nat.le_refl _) nC)
    · have ti := T.item (X.blk s3 H3 scope ce fp) rfl rfl rfl hc i [] s5 _ H5 (fun _ _ => False) I5 (stat I5 n5) st5 go
      refine thnF ti fun r s6 ⟨u, hr, h6⟩ => ?_
      subst hr
      refine thnF h6 fun _ s7 ⟨x, H7, I7, r7, y7, st7, n7⟩ => ?_
      have I7' := I7.pinned (stat I7 n7) (T.obj _ _ st7)
      refine thnF (pg.run _ s7 _ H7 x u _ I7' r7 (step x H7 y7)) fun _ s8 ⟨σ8, H8, I8, hw8, q8⟩ => ?_
      refine thnF (pt.run _ s8 σ8 H8 _ I8 q8) fun b s9 ⟨H9, I9, q9⟩ => ?_
      have fin : ∀ {s' : Shared} {H' : Hp}, Inv (X.blk s3 H3 scope ce fp) ([] ++ pinsAt fp s7.heap) σ8 H' s' → Nx H' → ∃ m, m < n ∧ ∃ i H', Inv (X.blk s3 H3 scope ce fp) [] (wipe σ (own.map (·.2))) H' s' ∧ tn i s'.heap ∧ (∀ b ∈ fp, H' b = none) ∧ W i m H' := fun {s' H'} I' nx => by
        obtain ⟨m', hm, w'⟩ := hNx H' nx
        have pin' : ∀ b ∈ fp, ∀ o, s7.heap.get? b = some o → s'.heap.get? b = some o ∧ H' b = none := fun b hb o e =>
          let z := I'.pin (b, o) (List.mem_append_right _ (List.mem_append_right _ (mem_pinsAt hb e)))
          ⟨z.1, z.2.1⟩
        have hl : (wipe σ (own.map (·.2))).length = σ8.length := by rw [← hw8, wipe_length]
        refine ⟨m', hm, i + 1, H', (I'.unpinned (pins := [])).weak hl (fun j v e => ?_), T.keep _ _ _ st7 fun b hb o e => (pin' b hb o e).1, fun b hb => ?_, w'⟩
        · rw [← hw8] at e
          exact (wipe_some e).1
        · obtain ⟨o, e, _⟩ := T.obj _ _ st7 b hb
          exact (pin' b hb o e).2
      cases b with
      | false =>
        simp only [Bool.false_eq_true, if_false] at q9 ⊢
        exact fin I9 q9
      | true =>
        simp only [if_true] at q9 ⊢
        refine thnF (pe.run _ s9 σ8 H9 _ I9 q9) fun z s10 ⟨yv, H10, I10, r10, ky, L0, kv, hD10, hL, few, nx⟩ => ?_
        exact addM_ok (X := X.blk s3 H3 scope ce fp) I10 hD10 hL kv r10 hu few fun s11 L' c1 c2 I11 => fin I11 (nx L' c1 c2)
  exact codeAny_compStart_set loop (T.self X.A 0 _ _ _ st4 loop)
theorem pe_scM {elt tg iter : Expr} {ifs : List Expr} {scope : Scope} {own : List (PySem.Str × Nat)} {pos : Pos} {wi : TI} {g : TG} {tt : TT} {te : TE} (hc : X.calm = true) (hN : X.N.Nodup) (hi : PI X tg iter wi) (ok : BlkOk X.N X.env.scope scope own)
    (hg : ∀ (s : Shared) (H : Hp) (C : Addr) (cl : List (PySem.Str × Addr)) (fp : List Addr), PG (X.blk s H scope (compEnvC scope cl C X.env) fp) tg g) (ht : ∀ (s : Shared) (H : Hp) (C : Addr) (cl : List (PySem.Str × Addr)) (fp : List Addr), PTs (X.blk s H scope (compEnvC scope cl C X.env) fp) ifs tt)
    (he : ∀ (s : Shared) (H : Hp) (C : Addr) (cl : List (PySem.Str × Addr)) (fp : List Addr), PE (X.blk s H scope (compEnvC scope cl C X.env) fp) elt te) (hu : X.A.units + 64 < cLine) (hs : ∀ x, foldedSetIterable iter X.env x = pure x := by intro _; rfl) :
    PE X (.SetComp elt [⟨tg, iter, ifs, 0⟩] scope pos) (tScM X.K X.w wi g tt te (own.map (·.2))) := by
  refine ⟨fun pins s σ H Q I h => ?_⟩
  rw [eval_SetComp]
  refine scM_core hc hN I hi ok hg ht he hs hu h fun D C s' m H' I' q hn f => ⟨m, hn, fun h'' sb => ?_⟩
  obtain ⟨f0, f1, f2, f3, f4, f5⟩ := f
  exact ⟨.ref D, H', I'.turned (t' := s'.toks) (fun b o hb e => (sb.2 b hb).trans e) f0 f1 f3 f4 f5, rfl, q⟩
end
end PLS

/-! Set comprehensions in the pure layer: len({..}), sorted({..}). -/
namespace PL
open PySem PySem.Spec PyProof.Rows L2 PLS
open PySem.W (dataLe dataLt alike AllAlike EachIs)
/-- a walk that gathers keys: C holds of each -/
def scW (gd : Sto → Prop) (t : Tg) (tt : PFB) (te : PF) (ρ : Env') (C : Pv → Prop) (Q : List Pv → Sto → Prop) : List Pv → List Pv → Sto → Prop
  | [], acc, S => gd S ∧ Q acc S
  | x :: xs, acc, S => gd S ∧ match bindT S t x ρ with
    | some ρ2 => tt ρ2 S fun c S2 => cnd c (te ρ2 S2 fun y S3 => C y ∧ scW gd t tt te ρ C Q xs (acc ++ [y]) S3) (scW gd t tt te ρ C Q xs acc S2)
    | none => False
theorem scW_mono {gd : Sto → Prop} {t : Tg} {tt : PFB} {te : PF} {ρ : Env'} {C : Pv → Prop} (h1 : ∀ ρ S Q Q', (∀ p S', Q p S' → Q' p S') → tt ρ S Q → tt ρ S Q') (h2 : ∀ ρ S Q Q', (∀ p S', Q p S' → Q' p S') → te ρ S Q → te ρ S Q') {Q Q' : List Pv → Sto → Prop} (i : ∀ p S', Q p S' → Q' p S') :
    ∀ (its acc : List Pv) (S : Sto), scW gd t tt te ρ C Q its acc S → scW gd t tt te ρ C Q' its acc S
  | [], acc, S, q => ⟨q.1, i _ _ q.2⟩
  | x :: xs, acc, S, q => by
    refine ⟨q.1, ?_⟩
    have q2 := q.2
    split at q2
    · refine h1 _ _ _ _ (fun c S2 q => ?_) q2
      cases c with
      | true => exact h2 _ _ _ _ (fun y S3 q => ⟨q.1, scW_mono h1 h2 i xs _ _ q.2⟩) q
      | false => exact scW_mono h1 h2 i xs _ _ q
    · exact q2.elim
def fSc (fi : PFI) (t : Tg) (tt : PFB) (te : PF) (vs : List Nat) (ρ : Env') (S : Sto) (F : List Pv → Sto → Prop) : Prop := fi ρ S fun its gd S1 => ∃ (m : Bool) (D : List Pv), D.length < 75 ∧ scW gd t tt te (wipeP ρ vs) (fun y => kOk m y ∧ y ∈ D) F its [] S1
/-- len({..}) -/
def fScLen (fi : PFI) (t : Tg) (tt : PFB) (te : PF) (vs : List Nat) : PF := fun ρ S Q => fSc fi t tt te vs ρ S fun acc S' => ∀ ys, setOf acc ys → Q (.int ys.length) S'
/-- sorted({..}) -/
def fScSorted (fi : PFI) (t : Tg) (tt : PFB) (te : PF) (vs : List Nat) : PF := fun ρ S Q => fSc fi t tt te vs ρ S fun acc S' => AllAlike (acc.map toD) ∧ PySem.W.Sortable (acc.map toD) ∧ ∀ ys, setOf acc ys → Q (.lst (sortP ys)) S'
section
variable {K : PySem.W.Frag} {H : Hp} {S : Sto} {D : Addr} {P : Heap → Prop} {o : HO}
theorem Rd.xupd {a : Addr} {u : HO} (hD : H D = some (.ext P)) (hu : u ≠ .ext P) (h : Rd H a u) : Rd (upd H D o) a u := by
  rcases h with h | ⟨x, h⟩
  · exact .inl (by rw [upd_ne (by rintro rfl; rw [hD] at h; exact hu (Option.some.inj h).symm)]; exact h)
  · exact .inr ⟨x, by rw [upd_ne (by rintro rfl; rw [hD] at h; cases h)]; exact h⟩
theorem SqT.xupd {a : Addr} {xs : List V} (hD : H D = some (.ext P)) (h : SqT K H a xs) : SqT K (upd H D o) a xs := h.imp (fun h => Rd.xupd hD (by intro z; cases z) h) id
mutual
theorem RepV.xupd (hD : H D = some (.ext P)) : ∀ (p : Pv) (v : V), RepV K H S p v → RepV K (upd H D o) S p v
  | .non, _, h => h
  | .bl _, _, h => h
  | .int _, _, h => h
  | .str _, _, h => h
  | .tup ps, _, ⟨a, vs, e1, h, r⟩ => ⟨a, vs, e1, SqT.xupd hD h, RepVs.xupd hD ps vs r⟩
  | .lst ps, _, ⟨a, vs, e1, h, hs, r⟩ => ⟨a, vs, e1, by rw [upd_ne (by rintro rfl; rw [hD] at h; cases h)]; exact h, hs, RepVs.xupd hD ps vs r⟩
  | .dct ks ps, _, ⟨a, kvs, e1, h, hs, r1, r2⟩ => ⟨a, kvs, e1, Rd.xupd hD (by intro z; cases z) h, hs, RepVs.xupd hD ks _ r1, RepVs.xupd hD ps _ r2⟩
  | .ref _, _, h => h
  | .ty _, _, h => h
  | .scr ps, _, ⟨a, vs, e1, h, r⟩ => ⟨a, vs, e1, h.elim (fun ⟨x, z⟩ => .inl ⟨x, by rw [upd_ne (by rintro rfl; rw [hD] at z; cases z)]; exact z⟩) .inr, RepVs.xupd hD ps vs r⟩
theorem RepVs.xupd (hD : H D = some (.ext P)) : ∀ (ps : List Pv) (vs : List V), RepVs K H S ps vs → RepVs K (upd H D o) S ps vs
  | [], _, h => h
  | p :: ps, _, ⟨v, r, e1, h1, h2⟩ => ⟨v, r, e1, RepV.xupd hD p v h1, RepVs.xupd hD ps r h2⟩
end
theorem RepS.xupd (hD : H D = some (.ext P)) (hc : ∀ q, LamX.CodeO D q ≠ .ext P) (r : RepS K H S) : RepS K (upd H D o) S := fun a m e => by
  have q := r a m e
  cases m with
  | lst xs => obtain ⟨vs, e1, r1⟩ := q; exact ⟨vs, by rw [upd_ne (by rintro rfl; rw [hD] at e1; cases e1)]; exact e1, RepVs.xupd hD _ _ r1⟩
  | dct ks xs => obtain ⟨vs, e1, r1, r2⟩ := q; exact ⟨vs, by rw [upd_ne (by rintro rfl; rw [hD] at e1; cases e1)]; exact e1, RepVs.xupd hD _ _ r1, RepVs.xupd hD _ _ r2⟩
  | tab n =>
    obtain ⟨ps, h1, h2, h3⟩ := q
    refine ⟨ps, by rw [upd_ne (by rintro rfl; rw [hD] at h1; cases h1)]; exact h1, h2, fun pos cv h => ?_⟩
    obtain ⟨c, e1, e2⟩ := h3 pos cv h
    refine ⟨c, e1, ?_⟩
    rw [upd_ne (by rintro rfl; rw [hD] at e2; exact hc n (Option.some.inj e2).symm)]
    exact e2
  | exc C => obtain ⟨oe, e1, r1⟩ := q; exact ⟨oe, by rw [upd_ne (by rintro rfl; rw [hD] at e1; cases e1)]; exact e1, r1⟩
/-- a set is no code object -/
theorem set_code {m : Bool} {w : World} {L : Vk} (q : Str) : LamX.CodeO D q ≠ SetMO m w D L := fun e => by
  have e2 := HO.ext.inj e
  let ob : Obj := { cls := .type "code", data := .fields #[.none, .str q 0] }
  have g : Heap.get? ⟨Array.replicate (D + 1) ob, {}⟩ D = some ob := by
    unfold Heap.get?
    simp [ob]
  have h := congrFun e2 (⟨Array.replicate (D + 1) ob, {}⟩ : Heap)
  have hs : SM0 m w (⟨Array.replicate (D + 1) ob, {}⟩ : Heap) D L := by
    rw [← h]
    exact ⟨ob, _, 0, g, rfl, rfl⟩
  obtain ⟨L', h0, S, k, _⟩ := hs
  obtain ⟨o, es, ep, t, ho, hex, hd, _⟩ := S.ob
  have := k o ho
  rw [g] at this
  cases this
  cases hd
theorem Ext.xupd {S1 : Sto} {H1 : Hp} (hn : H1 D = none) (e : Ext S1 H1 S H) : Ext S1 H1 S (upd H D o) := ⟨fun a u h hs => by rw [upd_ne (by rintro rfl; rw [hn] at h; cases h)]; exact e.keep a u h hs, e.new⟩
end
theorem zip_self {L : Vk} : L = (L.map (·.1)).zip (L.map (·.2)) := by
  induction L with
  | nil => rfl
  | cons z L ih => rw [List.map_cons, List.map_cons, List.zip_cons_cons, ← ih]
/-- the set that has been gathered -/
structure Gat (K : PySem.W.Frag) (w : World) (m : Bool) (D : Addr) (acc : List Pv) (S : Sto) (H : Hp) (L : Vk) (ys : List Pv) : Prop where
  at' : H D = some (SetMO m w D L)
  keys : L.map (·.2) = ys.map toK
  nd : (L.map (·.2)).Nodup
  rep : RepVs K H S ys (L.map (·.1))
  so : setOf acc ys
  ok : ∀ y ∈ acc, kOk m y
theorem Gat.kvs {K : PySem.W.Frag} {w : World} {m : Bool} {D : Addr} {acc : List Pv} {S : Sto} {H : Hp} {L : Vk} {ys : List Pv} (g : Gat K w m D acc S H L ys) : KVs m K H L := by
  have := kvs_of g.rep fun x hx => g.ok x ((g.so.2 x).mp hx)
  rw [← g.keys, ← zip_self] at this
  exact this
section
variable {X : Cx} {S0 : Sto} {H0 : Hp} {pos : Pos}
set_option maxHeartbeats 1000000 in
theorem sc_sim {fi : PFI} {t : Tg} {tt : PFB} {te : PF} {vs : List Nat} {tg iter : Expr} (hi : PIt X S0 H0 tg iter fi) (hv : ∀ i ∈ slotsT t, i ∈ vs) (m1 : ∀ ρ S Q Q', (∀ p S', Q p S' → Q' p S') → tt ρ S Q → tt ρ S Q') (m2 : ∀ ρ S Q Q', (∀ p S', Q p S' → Q' p S') → te ρ S Q → te ρ S Q')
    {σ : L2.St} {H : Hp} {Q : VK} {ρ : Env'} {S : Sto} {F : List Pv → Sto → Prop} (re : RepE X.K H S σ ρ) (rs : RepS X.K H S) (ex : Ext S0 H0 S H) (q : fSc fi t tt te vs ρ S F)
    (fin : ∀ m D acc L ys S' H', F acc S' → Gat X.K X.w m D acc S' H' L ys → S' D = none → RepS X.K H' S' → Ext S H S' H' → Q (.ref D) H') :
    tScM X.K X.w (liftI X.K S0 H0 fi) (tgR X.K t) (liftB X.K S0 H0 tt) (lift X.K S0 H0 te) vs σ H Q := by
  refine ⟨ρ, S, re, rs, ex, hi.mono _ _ _ _ (fun its gd S1 q J H1 w rs1 ex1 => ?_) q⟩
  intro D hD
  obtain ⟨md, D0, hD0, q⟩ := q
  refine ⟨md, fun i m H2 => i + m = its.length ∧ ∃ acc L ys S2, Gat X.K X.w md D acc S2 H2 L ys ∧ (∀ y ∈ acc, y ∈ D0) ∧ S2 D = none ∧ RepS X.K H2 S2 ∧ Ext S1 H1 S2 H2 ∧ scW gd t tt te (wipeP ρ vs) (fun y => kOk md y ∧ y ∈ D0) F (its.drop i) acc S2,
    ⟨its.length, by omega, [], [], [], S1, ⟨upd_same, rfl, List.nodup_nil, rfl, ⟨List.nodup_nil, fun y => Iff.rfl⟩, fun y hy => (by cases hy)⟩, fun y hy => (by cases hy), rs1.fr hD, rs1.newT hD, Ext.newT (K := X.K) hD, by rw [List.drop_zero]; exact q⟩, fun i m H2 hW => ?_⟩
  obtain ⟨em, acc, L, ys, S2, G, hin, n2, rs2, ex2, q2⟩ := hW
  cases hd : its.drop i with
  | nil =>
    rw [hd] at q2
    have hil : its.length ≤ i := by
      have := congrArg List.length hd
      simp at this
      omega
    have e0 : i = its.length := by omega
    subst e0
    exact .inl ⟨w.stop _ H2 ex2 rs2 q2.1, fin md D acc L ys S2 H2 q2.2 G n2 rs2 (ex1.trans ex2)⟩
  | cons x xs =>
    rw [hd] at q2
    have hil : i < its.length := by
      have := congrArg List.length hd
      simp at this
      omega
    have hx : its[i]? = some x := by
      have := congrArg (fun l => l[0]?) hd
      simpa using this
    have hxs : its.drop (i + 1) = xs := by
      have := congrArg (List.drop 1) hd
      simpa [Nat.add_comm] using this
    obtain ⟨hgo, hy⟩ := w.go _ H2 i x ex2 rs2 q2.1 hx
    refine .inr ⟨hgo, fun H3 => ∃ acc L ys S3, Gat X.K X.w md D acc S3 H3 L ys ∧ (∀ y ∈ acc, y ∈ D0) ∧ S3 D = none ∧ RepS X.K H3 S3 ∧ Ext S1 H1 S3 H3 ∧ scW gd t tt te (wipeP ρ vs) (fun y => kOk md y ∧ y ∈ D0) F xs acc S3, fun H3 ⟨acc', L', ys', S3, a1, a2, a3, a4, a5, a6⟩ => ⟨m - 1, by omega, by omega, acc', L', ys', S3, a1, a2, a3, a4, a5, by rw [hxs]; exact a6⟩, fun v H3 yl => ?_⟩
    obtain ⟨rv, rs3, ex3⟩ := hy v H3 yl
    have q3 := q2.2
    split at q3
    · rename_i ρ' eb
      have e13 := ex2.trans ex3
      have re3 : RepE X.K H3 S2 (L2.wipe σ vs) (wipeP ρ vs) := (re.ext rs (ex1.trans e13)).wipe vs
      refine tg_run rs3 t x v (L2.wipe σ vs) (wipeP ρ vs) ρ' _ rv re3 eb fun σ4 re4 w4 => ⟨by rw [w4 vs hv]; exact wipe_wipe σ vs vs fun i h => h, ?_⟩
      have e03 := (ex.trans ex1).trans e13
      refine ⟨ρ', _, re4, rs3, e03, m1 _ _ _ _ (fun c S5 q5 H5 rs5 ex5 => ?_) q3⟩
      have e15 := e13.trans ex5
      have e25 := ex3.trans ex5
      cases c with
      | true =>
        refine ⟨ρ', S5, re4.ext rs3 ex5, rs5, e03.trans ex5, m2 _ _ _ _ (fun y S6 q6 yv H6 ry rs6 ex6 => ?_) q5⟩
        obtain ⟨⟨h1, h2⟩, h3⟩ := q6
        have e26 := e25.trans ex6
        have hD6 : H6 D = some (SetMO md X.w D L) := e26.keep D _ G.at' n2
        have n6 : S6 D = none := e26.non G.at' n2
        have r6 : RepVs X.K H6 S6 ys (L.map (·.1)) := RepVs.ext rs2 e26 _ _ G.rep
        have G6 : Gat X.K X.w md D acc S6 H6 L ys := ⟨hD6, G.keys, G.nd, r6, G.so, G.ok⟩
        have ry6 : RepVs X.K H6 S6 (y :: ys) (yv :: L.map (·.1)) := ⟨yv, L.map (·.1), rfl, ry, r6⟩
        have hkk : ∀ x ∈ y :: ys, isK x = true := fun x hx => by
          rcases List.mem_cons.mp hx with rfl | hx
          · exact h1.isK
          · exact (G.ok x ((G.so.2 x).mp hx)).isK
        have ez : (yv :: L.map (·.1)).zip ((y :: ys).map toK) = (yv, toK y) :: L := by
          rw [List.map_cons, List.zip_cons_cons, ← G.keys, ← zip_self]
        have few : L.length + 1 < 76 := by
          have := nodup_le (D := D0.map toK) G.nd fun k hk => by
            rw [G.keys] at hk
            obtain ⟨z, hz, rfl⟩ := List.mem_map.mp hk
            exact List.mem_map.mpr ⟨z, hin z ((G.so.2 z).mp hz), rfl⟩
          rw [List.length_map, List.length_map] at this
          omega
        refine ⟨toK y, L, h1.kv ry, hD6, G6.kvs, few, fun L' c1 c2 => ?_⟩
        have three : (∀ z ∈ L', z ∈ (yv, toK y) :: L) ∧ (L'.map (·.2)).Nodup ∧ ∀ z ∈ (yv, toK y) :: L, z.2 ∈ L'.map (·.2) := by
          rcases Classical.em (toK y ∈ L.map (·.2)) with c | c
          · rw [c1 c]
            refine ⟨fun z hz => List.mem_cons_of_mem _ hz, G.nd, fun z hz => ?_⟩
            rcases List.mem_cons.mp hz with rfl | hz
            · exact c
            · exact List.mem_map.mpr ⟨z, hz, rfl⟩
          · have pm := c2 c
            refine ⟨fun z hz => pm.mem_iff.mp hz, (pm.map (·.2)).nodup_iff.mpr (List.nodup_cons.mpr ⟨c, G.nd⟩), fun z hz => List.mem_map.mpr ⟨z, pm.mem_iff.mpr hz, rfl⟩⟩
        obtain ⟨t1, t2, t3⟩ := three
        obtain ⟨ys', sy, ek, ry'⟩ := set_row ry6 hkk (L := L') (by rw [ez]; exact t1) t2 (by rw [ez]; exact t3)
        refine ⟨acc ++ [y], L', ys', S6, ⟨upd_same, ek, t2, RepVs.xupd hD6 _ _ ry', ⟨sy.1, fun z => ?_⟩, fun z hz => ?_⟩, fun z hz => ?_, n6, rs6.xupd hD6 (fun q => set_code q), Ext.xupd hD (e15.trans ex6), h3⟩
        · rw [sy.2 z, List.mem_append, List.mem_cons, List.mem_singleton, G.so.2 z]
          exact Or.comm
        · rcases List.mem_append.mp hz with hz | hz
          · exact G.ok z hz
          · rw [List.mem_singleton.mp hz]; exact h1
        · rcases List.mem_append.mp hz with hz | hz
          · exact hin z hz
          · rw [List.mem_singleton.mp hz]; exact h2
      | false =>
        refine ⟨acc, L, ys, S5, ⟨e25.keep D _ G.at' n2, G.keys, G.nd, RepVs.ext rs2 e25 _ _ G.rep, G.so, G.ok⟩, hin, e25.non G.at' n2, rs5, e15, q5⟩
    · exact q3.elim
variable {elt tg iter : Expr} {ifs : List Expr} {scope : Scope} {fi : PFI} {t : Tg} {tt : PFB} {te : PF} {p : Pos} {cpos : Pos}
theorem fSc_mono {vs : List Nat} (hi : PIt X S0 H0 tg iter fi) (m1 : ∀ ρ S Q Q', (∀ p S', Q p S' → Q' p S') → tt ρ S Q → tt ρ S Q') (m2 : ∀ ρ S Q Q', (∀ p S', Q p S' → Q' p S') → te ρ S Q → te ρ S Q') {F F' : List Pv → Sto → Prop} (i : ∀ acc S', F acc S' → F' acc S') {ρ : Env'} {S : Sto} (q : fSc fi t tt te vs ρ S F) : fSc fi t tt te vs ρ S F' :=
  hi.mono _ _ _ _ (fun its gd S1 ⟨m, D, hD, q⟩ => ⟨m, D, hD, scW_mono m1 m2 i its [] S1 q⟩) q
theorem pv_scLen (own : List (Str × Nat)) (hc : X.calm = true) (hN : X.N.Nodup) (hu : X.A.units + 64 < cLine) (hm : X.mg "len" = none) (hi : PIt X S0 H0 tg iter fi) (ok : BlkOk X.N X.env.scope scope own) (hg : Blk X scope fun Y => PG Y tg (tgR X.K t)) (ht : Blk X scope fun Y => PBs Y S0 H0 ifs tt) (he : Blk X scope fun Y => PV Y S0 H0 elt te)
    (hv : ∀ i ∈ slotsT t, i ∈ own.map (·.2) := by decide) (hs : ∀ x, foldedSetIterable iter X.env x = pure x := by intro _; rfl) (hgl : Gl X "len" := by rfl)
    (hse : starEach [.SetComp elt [⟨tg, iter, ifs, 0⟩] scope cpos] X.env = (false, eval (.SetComp elt [⟨tg, iter, ifs, 0⟩] scope cpos) X.env) :: starEach [] X.env := by rfl) (hpl : (backTo pos (starEach [] X.env)).any (·.1) = false := by rfl) :
    PV X S0 H0 (.Call (.Name "len" p) [.SetComp elt [⟨tg, iter, ifs, 0⟩] scope cpos] [] pos) (fScLen fi t tt te (own.map (·.2))) := by
  have m1 := (ht X.s_0 X.H_0 0 [] []).mono
  have m2 := (he X.s_0 X.H_0 0 [] []).mono
  refine ⟨fun ρ S Q Q' i q => fSc_mono hi m1 m2 (fun acc S' h ys hy => i _ _ (h ys hy)) q, PE.imp (pe_callB cr_lenM hgl hm (by decide +kernel) (pa_cons (pe_scM (te := lift X.K S0 H0 te) (tt := liftB X.K S0 H0 tt) hc hN hi.pi ok hg (fun s H C cl fp => (ht s H C cl fp).pts) (fun s H C cl fp => (he s H C cl fp).pe) hu hs) pa_nil hse) (by decide) (by decide) hse hpl) fun σ H Q ⟨ρ, S, re, rs, ex, q⟩ => ?_⟩
  show tScM X.K X.w (liftI X.K S0 H0 fi) (tgR X.K t) (liftB X.K S0 H0 tt) (lift X.K S0 H0 te) (own.map (·.2)) σ H (fun v H1 => rLenM X.K X.w [v] H1 Q)
  refine sc_sim hi hv m1 m2 re rs ex q fun m D acc L ys S' H' f G n rs' ex' => ?_
  refine ⟨m, D, L, rfl, G.at', G.kvs, ?_⟩
  have hl : L.length = ys.length := by rw [← List.length_map (·.2), G.keys, List.length_map]
  rw [hl]
  exact f ys G.so (.int ys.length) _ rfl rs' ex'
theorem pv_scSorted (own : List (Str × Nat)) (hc : X.calm = true) (hN : X.N.Nodup) (hu : X.A.units + 64 < cLine) (hm : X.mg "sorted" = none) (hi : PIt X S0 H0 tg iter fi) (ok : BlkOk X.N X.env.scope scope own) (hg : Blk X scope fun Y => PG Y tg (tgR X.K t)) (ht : Blk X scope fun Y => PBs Y S0 H0 ifs tt) (he : Blk X scope fun Y => PV Y S0 H0 elt te)
    (hv : ∀ i ∈ slotsT t, i ∈ own.map (·.2) := by decide) (hs : ∀ x, foldedSetIterable iter X.env x = pure x := by intro _; rfl) (hgl : Gl X "sorted" := by rfl)
    (hse : starEach [.SetComp elt [⟨tg, iter, ifs, 0⟩] scope cpos] X.env = (false, eval (.SetComp elt [⟨tg, iter, ifs, 0⟩] scope cpos) X.env) :: starEach [] X.env := by rfl) (hpl : (backTo pos (starEach [] X.env)).any (·.1) = false := by rfl) :
    PV X S0 H0 (.Call (.Name "sorted" p) [.SetComp elt [⟨tg, iter, ifs, 0⟩] scope cpos] [] pos) (fScSorted fi t tt te (own.map (·.2))) := by
  have m1 := (ht X.s_0 X.H_0 0 [] []).mono
  have m2 := (he X.s_0 X.H_0 0 [] []).mono
  refine ⟨fun ρ S Q Q' i q => fSc_mono hi m1 m2 (fun acc S' h => ⟨h.1, h.2.1, fun ys hy => i _ _ (h.2.2 ys hy)⟩) q, PE.imp (pe_callB (cr_sortedM hc hu) hgl hm (by decide +kernel) (pa_cons (pe_scM (te := lift X.K S0 H0 te) (tt := liftB X.K S0 H0 tt) hc hN hi.pi ok hg (fun s H C cl fp => (ht s H C cl fp).pts) (fun s H C cl fp => (he s H C cl fp).pe) hu hs) pa_nil hse) (by decide) (by decide) hse hpl) fun σ H Q ⟨ρ, S, re, rs, ex, q⟩ => ?_⟩
  show tScM X.K X.w (liftI X.K S0 H0 fi) (tgR X.K t) (liftB X.K S0 H0 tt) (lift X.K S0 H0 te) (own.map (·.2)) σ H (fun v H1 => rSortedM X.K X.w [v] H1 Q)
  refine sc_sim hi hv m1 m2 re rs ex q fun m D acc L ys S' H' f G n rs' ex' => ?_
  obtain ⟨al, so, f⟩ := f
  have hky : ∀ y ∈ ys, isK y = true := fun y hy => (G.ok y ((G.so.2 y).mp hy)).isK
  have dl : ∀ z ∈ L, ∃ x ∈ acc, z.2.data = toD x := fun z hz => by
    have : z.2 ∈ ys.map toK := by rw [← G.keys]; exact List.mem_map.mpr ⟨z, hz, rfl⟩
    obtain ⟨y, hy, e⟩ := List.mem_map.mp this
    exact ⟨y, (G.so.2 y).mp hy, by rw [← e, toK_data y (hky y hy)]⟩
  refine ⟨m, D, L, rfl, G.at', G.kvs, ?_, ?_, fun L1 p pm np => ?_⟩
  · intro d hd d' hd'
    obtain ⟨z, hz, rfl⟩ := List.mem_map.mp hd
    obtain ⟨z', hz', rfl⟩ := List.mem_map.mp hd'
    obtain ⟨x, hx, e⟩ := dl z hz
    obtain ⟨x', hx', e'⟩ := dl z' hz'
    rw [e, e']
    exact al _ (List.mem_map.mpr ⟨x, hx, rfl⟩) _ (List.mem_map.mpr ⟨x', hx', rfl⟩)
  · have mm : ∀ d ∈ L.map fun z => z.2.data, d ∈ acc.map toD := fun d hd => by
      obtain ⟨z, hz, rfl⟩ := List.mem_map.mp hd
      obtain ⟨x, hx, e⟩ := dl z hz
      rw [e]
      exact List.mem_map.mpr ⟨x, hx, rfl⟩
    rcases so with s1 | s1
    · exact .inl fun d hd => s1 d (mm d hd)
    · exact .inr fun d hd => s1 d (mm d hd)
  · have zs : L = (L.map (·.1)).zip (ys.map toK) := by rw [← G.keys]; exact zip_self
    have ml : ∀ z ∈ L1, z ∈ (L.map (·.1)).zip (ys.map toK) := fun z hz => by rw [← zs]; exact pm.mem_iff.mp hz
    obtain ⟨us, sy, ek, ry⟩ := set_row G.rep hky (L := L1) ml ((pm.map (·.2)).nodup_iff.mpr G.nd) fun z hz => (pm.map (·.2)).mem_iff.mpr (by rw [← zs] at hz; exact List.mem_map.mpr ⟨z, hz, rfl⟩)
    have su : setOf acc us := ⟨sy.1, fun z => (sy.2 z).trans (G.so.2 z)⟩
    have em : (L1.mergeSort (dataLe false fun z => z.2.data)).map (·.1) = (((L1.map (·.1)).zip (toDs us)).mergeSort (dataLe false (·.2))).map (·.1) := by
      have e3 : (L1.map (·.1)).zip (toDs us) = L1.map fun z => (z.1, z.2.data) := by
        have e4 : toDs us = L1.map fun z => z.2.data := by
          rw [toDs_map]
          have e5 : (L1.map fun z => z.2.data) = (L1.map (·.2)).map NestedKey.data := by rw [List.map_map]; rfl
          rw [e5, ek, List.map_map]
          exact List.map_congr_left fun y hy => (toK_data y (hky y ((sy.2 y).mp hy))).symm
        rw [e4, List.zip_map']
      rw [e3, ← List.map_mergeSort (r := dataLe false fun z : V × NestedKey => z.2.data) (f := fun z : V × NestedKey => (z.1, z.2.data)) (fun _ _ _ _ => rfl), List.map_map]
      rfl
    rw [em]
    obtain ⟨a1, a2, a3⟩ := newL_k rs' np (sort_rep ry)
    exact f us su (.ref p) _ a1 a2 (ex'.trans a3)
end
end PL

/-! zip of two, of three, each a list or a tuple -/
namespace ZN
open PySem
open PySem.Sem (wp)
inductive Kd | L | T
def Kd.it : Kd → Heap → Addr → Addr → Nat → Prop
  | .L, h, a, l, i => h.IsListIter a l i
  | .T, h, a, l, i => h.IsTupleIter a l i
def Kd.sq : Kd → Heap → Addr → Array Value → Prop
  | .L, h, a, v => h.IsList a v
  | .T, h, a, v => h.IsTuple a v
def Kd.cl : Kd → String
  | .L => "list_iterator"
  | .T => "tuple_iterator"
theorem it_eb {c : Kd} {h g : Heap} {a b l : Addr} {i : Nat} (x : c.it h a l i) (e : Heap.ExtBut b h g) (n : a ≠ b) : c.it g a l i := by
  cases c with
  | L => exact Heap.IsListIter.at x fun o q => e _ _ n q
  | T => exact Heap.IsTupleIter.at x fun o q => e _ _ n q
theorem it_at {c : Kd} {h g : Heap} {a l : Addr} {i : Nat} (x : c.it h a l i) (e : ∀ o, h.get? a = some o → g.get? a = some o) : c.it g a l i := by
  cases c with
  | L => exact Heap.IsListIter.at x e
  | T => exact Heap.IsTupleIter.at x e
theorem it_obj {c : Kd} {h : Heap} {a l : Addr} {i : Nat} (x : c.it h a l i) : ∃ o, h.get? a = some o ∧ ∀ v, o.data ≠ .cell v := by
  cases c with
  | L => obtain ⟨o, e, _, d⟩ := x; exact ⟨o, e, fun v q => by rw [d] at q; cases q⟩
  | T => obtain ⟨o, e, _, d⟩ := x; exact ⟨o, e, fun v q => by rw [d] at q; cases q⟩
theorem sq_eb {c : Kd} {h g : Heap} {a b : Addr} {v : Array Value} (x : c.sq h a v) (e : Heap.ExtBut b h g) (n : a ≠ b) : c.sq g a v := by
  cases c with
  | L => exact Heap.IsList.extBut x e n
  | T => exact Heap.IsTuple.extBut x e n
section
variable {prog : Program} {w : World} {A : Around} {E : Value → Shared → Prop} {s : Shared}
theorem nx_item {c : Kd} {a l : Addr} {i : Nat} {v : Array Value} {x : Value} {Q : Value → Shared → Prop} (g : c.it s.heap a l i) (q : c.sq s.heap l v) (e : v[i]? = some x)
    (k : ∀ h, c.it h a l (i + 1) → Heap.SameBut a s.heap h → Q x { s with heap := h }) : wpAny (model prog w) A (Builtin.SmallTypes.nextOf (.ref a)) Q E s := by
  cases c with
  | L => exact wpAny_nextOf_list_item g q e k
  | T => exact RZ.nextOf_tuple_item g q e k
theorem nx_end {c : Kd} {a l : Addr} {i : Nat} {v : Array Value} {Q : Value → Shared → Prop} (hh : A.handled = none) (g : c.it s.heap a l i) (q : c.sq s.heap l v) (e : v[i]? = none)
    (k : ∀ h z, Heap.ExtBut a s.heap h → (∃ o, h.get? z = some o ∧ o.cls = .type "StopIteration") → E (.ref z) { s with heap := h }) : wpAny (model prog w) A (Builtin.SmallTypes.nextOf (.ref a)) Q E s := by
  cases c with
  | L => exact wpAny_nextOf_list_end hh g q e k
  | T => exact RZ.nextOf_tuple_end hh g q e k
theorem up_seq {T : Addr} {v : Array Value} {x : Value} {k : Nat} {Q : Unit → Shared → Prop} (hT : s.heap.get? T = some { cls := .type "tuple", data := .seq v })
    (lv : v.size ≤ sizeLine) (q : ∀ h, h.get? T = some { cls := .type "tuple", data := .seq (v.setIfInBounds k x) } → Heap.SameBut T s.heap h → Q () { s with heap := h }) : wpAny (model prog w) A (updateSeq T (·.setIfInBounds k x)) Q E s := by
  refine wpAny_updateSeq hT rfl (q _ ?_ (Heap.SameBut.update ..)) lv (by rw [Array.size_setIfInBounds]; omega)
  rw [Heap.get?_update_self _ hT rfl]
  simp [Obj.mapSeq]
end
abbrev Tp (h : Heap) (T : Addr) (v : List Value) : Prop := h.get? T = some { cls := .type "tuple", data := .seq v.toArray }

structure Ap2 (z ti to i1 i2 l1 l2 : Addr) : Prop where
  z_ti : z ≠ ti
  z_to : z ≠ to
  z_i1 : z ≠ i1
  z_i2 : z ≠ i2
  ti_to : ti ≠ to
  ti_i1 : ti ≠ i1
  ti_i2 : ti ≠ i2
  to_i1 : to ≠ i1
  to_i2 : to ≠ i2
  i1_i2 : i1 ≠ i2
  l1_z : l1 ≠ z
  l1_to : l1 ≠ to
  l1_i1 : l1 ≠ i1
  l1_i2 : l1 ≠ i2
  l2_z : l2 ≠ z
  l2_to : l2 ≠ to
  l2_i1 : l2 ≠ i1
  l2_i2 : l2 ≠ i2
section
variable {prog : Program} {w : World} {A : Around} {E : Value → Shared → Prop} {s : Shared}
theorem item2 {z ti to i1 i2 l1 l2 : Addr} {c1 c2 : Kd} {k : Nat} {v1 v2 : Array Value} {x1 x2 b1 b2 : Value} {Q : Value → Shared → Prop} (W : Ap2 z ti to i1 i2 l1 l2) (hz : IsZip s.heap z ti to .none) (hi : Tp s.heap ti [.ref i1, .ref i2]) (ho : Tp s.heap to [b1, b2]) (g1 : c1.it s.heap i1 l1 k) (g2 : c2.it s.heap i2 l2 k) (q1 : c1.sq s.heap l1 v1) (q2 : c2.sq s.heap l2 v2) (e1 : v1[k]? = some x1) (e2 : v2[k]? = some x2)
    (hQ : ∀ h', IsZip h' z ti to (rawInt s.heap.objs.size) → Tp h' to [x1, x2] → c1.it h' i1 l1 (k + 1) → c2.it h' i2 l2 (k + 1) → Tp h' s.heap.objs.size [x1, x2] → h'.objs.size = s.heap.objs.size + 1 → (∀ c o, c ≠ z → c ≠ to → c ≠ i1 → c ≠ i2 → s.heap.get? c = some o → h'.get? c = some o) → Q (.ref s.heap.objs.size) { s with heap := h' }) :
    wpAny (model prog w) A (Builtin.«zip.__next__» ⟨[.ref z], []⟩) (fun fin s' => ∃ v, fin = .done (.ret v) ∧ Q v s') E s := by
  show wpAny _ _ (field (.ref z) 2 >>= _) _ _ s
  refine wpAny_bind (wpAny_field hz rfl (x := Value.bool false) rfl ?_)
  show wpAny _ _ (field (.ref z) 3 >>= _) _ _ s
  refine wpAny_bind (wpAny_field hz rfl (x := Value.ref ti) rfl ?_)
  refine wpAny_bind (wpAny_seqItems hi rfl ?_)
  show wpAny _ _ (Builtin.SmallTypes.ownedTupleIsFree (.ref z) >>= _) _ _ s
  refine wpAny_bind ?_
  unfold Builtin.SmallTypes.ownedTupleIsFree
  refine wpAny_bind (wpAny_field hz rfl (x := Value.none) rfl (wpAny_pure ?_))
  simp only [if_true]
  refine wpAny_bind (wpAny_rule ?_)
  refine wpAny_bind (wpAny_field hz rfl (x := Value.ref to) rfl ?_)
  refine wpAny_bind (wpAny_setField_rec hz (by simp) fun h1 z1 s1 => ?_)
  replace z1 : IsZip h1 z ti to .ellipsis := z1
  refine wpAny_bind ?_
  simp only [List.zipIdx_nil, List.zipIdx_cons, List.forIn_nil, List.forIn_cons]
  refine wpAny_bind (wpAny_bind (wpAny_onRaise ?_))
  show wpAny _ _ (Builtin.SmallTypes.nextOf (.ref i1) >>= _) _ _ _
  refine wpAny_bind (nx_item (it_eb (g1) s1.extBut (Ne.symm W.z_i1)) (sq_eb (q1) s1.extBut W.l1_z) e1 fun h2 m1 s2 => wpAny_pure ?_)
  have o2 : Tp h2 to [b1, b2] := s2.extBut _ _ W.to_i1 (s1.extBut _ _ (Ne.symm W.z_to) (ho))
  refine wpAny_bind (wpAny_seqItems o2 rfl ?_)
  refine wpAny_bind (up_seq o2 (show 2 ≤ sizeLine by decide) fun h3 o3 s3 => ?_)
  replace o3 : Tp h3 to [x1, b2] := o3
  refine wpAny_bind (wpAny_letGo (wpAny_pure ?_))
  refine wpAny_bind (wpAny_bind (wpAny_onRaise ?_))
  show wpAny _ _ (Builtin.SmallTypes.nextOf (.ref i2) >>= _) _ _ _
  refine wpAny_bind (nx_item (it_eb (it_eb (it_eb (g2) s1.extBut (Ne.symm W.z_i2)) s2.extBut (Ne.symm W.i1_i2)) s3.extBut (Ne.symm W.to_i2)) (sq_eb (sq_eb (sq_eb (q2) s1.extBut W.l2_z) s2.extBut W.l2_i1) s3.extBut W.l2_to) e2 fun h4 m2 s4 => wpAny_pure ?_)
  have o4 : Tp h4 to [x1, b2] := s4.extBut _ _ W.to_i2 (o3)
  refine wpAny_bind (wpAny_seqItems o4 rfl ?_)
  refine wpAny_bind (up_seq o4 (show 2 ≤ sizeLine by decide) fun h5 o5 s5 => ?_)
  replace o5 : Tp h5 to [x1, x2] := o5
  refine wpAny_bind (wpAny_letGo (wpAny_pure (wpAny_pure ?_)))
  refine wpAny_bind (wpAny_seqItems o5 rfl ?_)
  refine wpAny_bind (wpAny_newTuple ?_)
  have sz : h5.objs.size = s.heap.objs.size := by rw [s5.1, s4.1, s3.1, s2.1, s1.1]
  have zz : IsZip h5 z ti to .ellipsis := s5.extBut _ _ W.z_to (s4.extBut _ _ W.z_i2 (s3.extBut _ _ W.z_to (s2.extBut _ _ W.z_i1 (z1))))
  have kk : ∀ c o, c ≠ z → c ≠ to → c ≠ i1 → c ≠ i2 → s.heap.get? c = some o → h5.get? c = some o := fun c o n_z n_to n_i1 n_i2 e =>
    s5.extBut _ _ n_to (s4.extBut _ _ n_i2 (s3.extBut _ _ n_to (s2.extBut _ _ n_i1 (s1.extBut _ _ n_z (e)))))
  have r1 : c1.it h5 i1 l1 (k + 1) := it_eb (it_eb (it_eb (m1) s3.extBut (Ne.symm W.to_i1)) s4.extBut W.i1_i2) s5.extBut (Ne.symm W.to_i1)
  have r2 : c2.it h5 i2 l2 (k + 1) := it_eb (m2) s5.extBut (Ne.symm W.to_i2)
  have lt : z < h5.objs.size := Heap.lt_size zz
  show wpAny _ _ (Builtin.SmallTypes.ownedTupleHandOut (.ref z) (.ref h5.objs.size) >>= _) _ _ _
  refine wpAny_bind ?_
  unfold Builtin.SmallTypes.ownedTupleHandOut
  have zp : IsZip (h5.push { cls := .type "tuple", data := .seq #[x1, x2] }) z ti to .ellipsis := Heap.get?_push_of_some _ zz
  refine wpAny_bind (wpAny_setField_rec zp (by simp) fun ha za sa => ?_)
  replace za : IsZip ha z ti to (rawInt h5.objs.size) := za
  refine wpAny_setField_rec za (by simp) fun hb zb sb => ?_
  replace zb : IsZip hb z ti to (rawInt h5.objs.size) := zb
  have up : ∀ c o, c ≠ z → h5.get? c = some o → hb.get? c = some o := fun c o n e => sb.extBut _ _ n (sa.extBut _ _ n (Heap.get?_push_of_some _ e))
  have nt : Tp hb h5.objs.size [x1, x2] := sb.extBut _ _ (Nat.ne_of_gt lt) (sa.extBut _ _ (Nat.ne_of_gt lt) (Heap.get?_push_size _ rfl))
  have bz : hb.objs.size = h5.objs.size + 1 := by rw [sb.1, sa.1, Heap.size_push]
  rw [sz] at zb nt bz
  refine wpAny_pure ⟨_, rfl, ?_⟩
  show Q (.ref h5.objs.size) _
  rw [sz]
  exact hQ hb zb (up _ _ (Ne.symm W.z_to) o5) (it_at r1 fun o e => up _ o (Ne.symm W.z_i1) e) (it_at r2 fun o e => up _ o (Ne.symm W.z_i2) e) nt bz fun c o n_z n_to n_i1 n_i2 e => up c o n_z (kk c o n_z n_to n_i1 n_i2 e)

theorem end2 {z ti to i1 i2 l1 l2 : Addr} {c1 c2 : Kd} {k : Nat} {v1 v2 : Array Value} {b1 b2 : Value} {Q : Fin → Shared → Prop} (hh : A.handled = none) (W : Ap2 z ti to i1 i2 l1 l2) (hz : IsZip s.heap z ti to .none) (hi : Tp s.heap ti [.ref i1, .ref i2]) (ho : Tp s.heap to [b1, b2]) (g1 : c1.it s.heap i1 l1 k) (g2 : c2.it s.heap i2 l2 k) (q1 : c1.sq s.heap l1 v1) (q2 : c2.sq s.heap l2 v2) (hend : v1[k]? = none ∨ v2[k]? = none)
    (hE : ∀ h' e, (∀ c o, c ≠ z → c ≠ to → c ≠ i1 → c ≠ i2 → s.heap.get? c = some o → h'.get? c = some o) → (∃ o, h'.get? e = some o ∧ o.cls = .type "StopIteration") → E (.ref e) { s with heap := h' }) :
    wpAny (model prog w) A (Builtin.«zip.__next__» ⟨[.ref z], []⟩) Q E s := by
  show wpAny _ _ (field (.ref z) 2 >>= _) _ _ s
  refine wpAny_bind (wpAny_field hz rfl (x := Value.bool false) rfl ?_)
  show wpAny _ _ (field (.ref z) 3 >>= _) _ _ s
  refine wpAny_bind (wpAny_field hz rfl (x := Value.ref ti) rfl ?_)
  refine wpAny_bind (wpAny_seqItems hi rfl ?_)
  show wpAny _ _ (Builtin.SmallTypes.ownedTupleIsFree (.ref z) >>= _) _ _ s
  refine wpAny_bind ?_
  unfold Builtin.SmallTypes.ownedTupleIsFree
  refine wpAny_bind (wpAny_field hz rfl (x := Value.none) rfl (wpAny_pure ?_))
  simp only [if_true]
  refine wpAny_bind (wpAny_rule ?_)
  refine wpAny_bind (wpAny_field hz rfl (x := Value.ref to) rfl ?_)
  refine wpAny_bind (wpAny_setField_rec hz (by simp) fun h1 z1 s1 => ?_)
  replace z1 : IsZip h1 z ti to .ellipsis := z1
  refine wpAny_bind ?_
  simp only [List.zipIdx_nil, List.zipIdx_cons, List.forIn_nil, List.forIn_cons]
  cases e1 : v1[k]? with
  | none =>
    refine wpAny_bind (wpAny_bind (wpAny_onRaise ?_))
    show wpAny _ _ (Builtin.SmallTypes.nextOf (.ref i1) >>= _) _ _ _
    refine wpAny_bind (nx_end hh (it_eb (g1) s1.extBut (Ne.symm W.z_i1)) (sq_eb (q1) s1.extBut W.l1_z) e1 fun h2 e s2 he => ?_)
    obtain ⟨oe, hoe, hce⟩ := he
    have zz : IsZip h2 z ti to .ellipsis := s2 _ _ W.z_i1 (z1)
    have nz : e ≠ z := fun x => by subst x; rw [zz] at hoe; cases hoe; simp at hce
    refine wpAny_setField_rec zz (by simp) fun hl _ sl => hE hl e (fun c o n_z n_to n_i1 n_i2 x => sl.extBut _ _ n_z (s2 _ _ n_i1 (s1.extBut _ _ n_z (x)))) ⟨oe, sl.extBut _ _ nz hoe, hce⟩
  | some x1 =>
    refine wpAny_bind (wpAny_bind (wpAny_onRaise ?_))
    show wpAny _ _ (Builtin.SmallTypes.nextOf (.ref i1) >>= _) _ _ _
    refine wpAny_bind (nx_item (it_eb (g1) s1.extBut (Ne.symm W.z_i1)) (sq_eb (q1) s1.extBut W.l1_z) e1 fun h2 m1 s2 => wpAny_pure ?_)
    have o2 : Tp h2 to [b1, b2] := s2.extBut _ _ W.to_i1 (s1.extBut _ _ (Ne.symm W.z_to) (ho))
    refine wpAny_bind (wpAny_seqItems o2 rfl ?_)
    refine wpAny_bind (up_seq o2 (show 2 ≤ sizeLine by decide) fun h3 o3 s3 => ?_)
    replace o3 : Tp h3 to [x1, b2] := o3
    refine wpAny_bind (wpAny_letGo (wpAny_pure ?_))
    cases e2 : v2[k]? with
    | none =>
      refine wpAny_bind (wpAny_bind (wpAny_onRaise ?_))
      show wpAny _ _ (Builtin.SmallTypes.nextOf (.ref i2) >>= _) _ _ _
      refine wpAny_bind (nx_end hh (it_eb (it_eb (it_eb (g2) s1.extBut (Ne.symm W.z_i2)) s2.extBut (Ne.symm W.i1_i2)) s3.extBut (Ne.symm W.to_i2)) (sq_eb (sq_eb (sq_eb (q2) s1.extBut W.l2_z) s2.extBut W.l2_i1) s3.extBut W.l2_to) e2 fun h4 e s4 he => ?_)
      obtain ⟨oe, hoe, hce⟩ := he
      have zz : IsZip h4 z ti to .ellipsis := s4 _ _ W.z_i2 (s3.extBut _ _ W.z_to (s2.extBut _ _ W.z_i1 (z1)))
      have nz : e ≠ z := fun x => by subst x; rw [zz] at hoe; cases hoe; simp at hce
      refine wpAny_setField_rec zz (by simp) fun hl _ sl => hE hl e (fun c o n_z n_to n_i1 n_i2 x => sl.extBut _ _ n_z (s4 _ _ n_i2 (s3.extBut _ _ n_to (s2.extBut _ _ n_i1 (s1.extBut _ _ n_z (x)))))) ⟨oe, sl.extBut _ _ nz hoe, hce⟩
    | some x2 =>
      rcases hend with h | h
      · rw [e1] at h; cases h
      · rw [e2] at h; cases h

theorem nextI2 {z ti to i1 i2 l1 l2 : Addr} {c1 c2 : Kd} {k : Nat} {v1 v2 : Array Value} {x1 x2 b1 b2 : Value} {Q : Option Value → Shared → Prop} (W : Ap2 z ti to i1 i2 l1 l2) (hz : IsZip s.heap z ti to .none) (hi : Tp s.heap ti [.ref i1, .ref i2]) (ho : Tp s.heap to [b1, b2]) (g1 : c1.it s.heap i1 l1 k) (g2 : c2.it s.heap i2 l2 k) (q1 : c1.sq s.heap l1 v1) (q2 : c2.sq s.heap l2 v2) (e1 : v1[k]? = some x1) (e2 : v2[k]? = some x2)
    (hQ : ∀ h', IsZip h' z ti to (rawInt s.heap.objs.size) → Tp h' to [x1, x2] → c1.it h' i1 l1 (k + 1) → c2.it h' i2 l2 (k + 1) → Tp h' s.heap.objs.size [x1, x2] → h'.objs.size = s.heap.objs.size + 1 → (∀ c o, c ≠ z → c ≠ to → c ≠ i1 → c ≠ i2 → s.heap.get? c = some o → h'.get? c = some o) → Q (some (.ref s.heap.objs.size)) { s with heap := h' }) :
    wpAny (model prog w) A (pyNext (.ref z)) Q E s := by
  have ty : s.TypeIs (.ref z) "zip" := ⟨_, hz, rfl⟩
  unfold pyNext
  exact wpAny_bind (wpAny_attempt (wpAny_callSpecial?_slot (name := Str.ofString "__next__") ty F.slot_zip_next
    (wpAny_call_entry F.slot_zip_next ty F.entry_zip_next (item2 W hz hi ho g1 g2 q1 q2 e1 e2 fun h' a1 a2 r1 r2 a3 a4 a5 => wpAny_pure (hQ h' a1 a2 r1 r2 a3 a4 a5)) (F.args_zip_next_1 _))))
theorem nextE2 {z ti to i1 i2 l1 l2 : Addr} {c1 c2 : Kd} {k : Nat} {v1 v2 : Array Value} {b1 b2 : Value} {Q : Option Value → Shared → Prop} (hh : A.handled = none) (W : Ap2 z ti to i1 i2 l1 l2) (hz : IsZip s.heap z ti to .none) (hi : Tp s.heap ti [.ref i1, .ref i2]) (ho : Tp s.heap to [b1, b2]) (g1 : c1.it s.heap i1 l1 k) (g2 : c2.it s.heap i2 l2 k) (q1 : c1.sq s.heap l1 v1) (q2 : c2.sq s.heap l2 v2) (hend : v1[k]? = none ∨ v2[k]? = none)
    (hQ : ∀ h', (∀ c o, c ≠ z → c ≠ to → c ≠ i1 → c ≠ i2 → s.heap.get? c = some o → h'.get? c = some o) → Q none { s with heap := h' }) : wpAny (model prog w) A (pyNext (.ref z)) Q E s := by
  have ty : s.TypeIs (.ref z) "zip" := ⟨_, hz, rfl⟩
  unfold pyNext
  refine wpAny_bind (wpAny_attempt (wpAny_callSpecial?_slot (name := Str.ofString "__next__") ty F.slot_zip_next
    (wpAny_call_entry F.slot_zip_next ty F.entry_zip_next (end2 hh W hz hi ho g1 g2 q1 q2 hend fun h' e kp he => ?_) (F.args_zip_next_1 _))))
  obtain ⟨oe, hoe, hce⟩ := he
  refine wpAny_bind (wpAny_isInstance (T := "StopIteration") (b := true) ⟨oe, hoe, hce⟩ isSubtype_stop ?_)
  exact wpAny_pure (hQ _ kp)
end
abbrev zh2TL_1 (hp : Heap) (l1 : Addr) : Heap := hp.push { cls := .type "tuple_iterator", data := .fields #[.ref l1, .int 0 0] }
abbrev zh2TL_2 (hp : Heap) (l1 : Addr) (l2 : Addr) : Heap := (zh2TL_1 hp l1).push { cls := .type "list_iterator", data := .fields #[.ref l2, .int 0 0] }
abbrev zh2TL_3 (hp : Heap) (l1 : Addr) (l2 : Addr) : Heap := (zh2TL_2 hp l1 l2).push { cls := .type "tuple", data := .seq #[.ref hp.objs.size, .ref (zh2TL_1 hp l1).objs.size] }
abbrev zh2TL_4 (hp : Heap) (l1 : Addr) (l2 : Addr) : Heap := (zh2TL_3 hp l1 l2).push { cls := .type "tuple", data := .seq #[.none, .none] }
abbrev zh2TL_5 (hp : Heap) (l1 : Addr) (l2 : Addr) : Heap := (zh2TL_4 hp l1 l2).push { cls := .type "zip", data := .fields #[.none, .bool false, .bool false, .ref (zh2TL_2 hp l1 l2).objs.size, .ref (zh2TL_3 hp l1 l2).objs.size] }
theorem new2TL (l1 l2 : Addr) (v1 v2 : Array Value) : Meets (Builtin.«zip.__new__» ⟨[.type "zip", .ref l1, .ref l2], []⟩) (fun _ R s => Kd.T.sq s.heap l1 v1 ∧ Kd.L.sq s.heap l2 v2 ∧
    R (.ok (.ret (.ref (zh2TL_4 s.heap l1 l2).objs.size))) { s with heap := (zh2TL_5 s.heap l1 l2) }) :=
  .of_wp fun prog w A R s h => by
    obtain ⟨hp, gg, dd, tk, os⟩ := s
    obtain ⟨q1, q2, h⟩ := h
    have hsub := sub_zip
    have k1 : Heap.IsTuple (Shared.heap ⟨hp, gg, dd, tk, os⟩) l1 v1 := q1
    have k2 : Heap.IsList (Shared.heap ⟨(hp.push { cls := .type "tuple_iterator", data := .fields #[.ref l1, .int 0 0] }), gg, dd, tk, os⟩) l2 v2 := (Heap.IsList.push q2 _)
    wp_walk using wpAny_pyIter_tuple k1, wpAny_pyIter_list k2
    exact ⟨_, rfl, h⟩

section
variable {prog : Program} {w : World} {A : Around} {E : Value → Shared → Prop} {s : Shared}
theorem call2TL {l1 l2 : Addr} {v1 v2 : Array Value} {Q : Value → Shared → Prop} (q1 : Kd.T.sq s.heap l1 v1) (q2 : Kd.L.sq s.heap l2 v2)
    (h : ∀ h', IsZip h' (s.heap.objs.size + 4) (s.heap.objs.size + 2) (s.heap.objs.size + 3) .none → Tp h' (s.heap.objs.size + 2) [.ref s.heap.objs.size, .ref (s.heap.objs.size + 1)] → Tp h' (s.heap.objs.size + 3) [.none, .none] → Kd.T.it h' s.heap.objs.size l1 0 → Kd.L.it h' (s.heap.objs.size + 1) l2 0 → h'.objs.size = s.heap.objs.size + 5 → (∀ c o, s.heap.get? c = some o → h'.get? c = some o) → Q (.ref (s.heap.objs.size + 4)) { s with heap := h' }) :
    wpAny (model prog w) A (call (.type "zip") [.ref l1, .ref l2]) Q E s := by
  refine callType_new F.called_zip (by decide) (F.typeCall_zip_2 _ _) (F.newCall_zip_2 _ _) (fun ob => F.args_object_init_3 ob _ _) F.entry_zip_new (new2TL l1 l2 v1 v2) ⟨q1, q2, ?_⟩
  have y1 : (zh2TL_1 s.heap l1).objs.size = s.heap.objs.size + 1 := Heap.size_push ..
  have y2 : (zh2TL_2 s.heap l1 l2).objs.size = s.heap.objs.size + 2 := by rw [Heap.size_push, y1]
  have y3 : (zh2TL_3 s.heap l1 l2).objs.size = s.heap.objs.size + 3 := by rw [Heap.size_push, y2]
  have y4 : (zh2TL_4 s.heap l1 l2).objs.size = s.heap.objs.size + 4 := by rw [Heap.size_push, y3]
  have y5 : (zh2TL_5 s.heap l1 l2).objs.size = s.heap.objs.size + 5 := by rw [Heap.size_push, y4]
  have f0 : (zh2TL_5 s.heap l1 l2).get? s.heap.objs.size = some _ := Heap.get?_push_of_some _ (Heap.get?_push_of_some _ (Heap.get?_push_of_some _ (Heap.get?_push_of_some _ (Heap.get?_push_size _ rfl))))
  have f1 : (zh2TL_5 s.heap l1 l2).get? (zh2TL_1 s.heap l1).objs.size = some _ := Heap.get?_push_of_some _ (Heap.get?_push_of_some _ (Heap.get?_push_of_some _ (Heap.get?_push_size _ rfl)))
  have f2 : (zh2TL_5 s.heap l1 l2).get? (zh2TL_2 s.heap l1 l2).objs.size = some _ := Heap.get?_push_of_some _ (Heap.get?_push_of_some _ (Heap.get?_push_size _ rfl))
  have f3 : (zh2TL_5 s.heap l1 l2).get? (zh2TL_3 s.heap l1 l2).objs.size = some _ := Heap.get?_push_of_some _ (Heap.get?_push_size _ rfl)
  have f4 : (zh2TL_5 s.heap l1 l2).get? (zh2TL_4 s.heap l1 l2).objs.size = some _ := Heap.get?_push_size _ rfl
  show _ ∧ _
  rw [y2, y3, y4] at f4
  rw [y3] at f3
  rw [y1, y2] at f2
  rw [y1] at f1
  rw [y4]
  exact ⟨⟨_, f4, rfl⟩, h _ f4 f2 f3 ⟨_, f0, rfl, rfl⟩ ⟨_, f1, rfl, rfl⟩ y5 fun c o x => Heap.get?_push_of_some _ (Heap.get?_push_of_some _ (Heap.get?_push_of_some _ (Heap.get?_push_of_some _ (Heap.get?_push_of_some _ (x)))))⟩
end
structure Ap3 (z ti to i1 i2 i3 l1 l2 l3 : Addr) : Prop where
  z_ti : z ≠ ti
  z_to : z ≠ to
  z_i1 : z ≠ i1
  z_i2 : z ≠ i2
  z_i3 : z ≠ i3
  ti_to : ti ≠ to
  ti_i1 : ti ≠ i1
  ti_i2 : ti ≠ i2
  ti_i3 : ti ≠ i3
  to_i1 : to ≠ i1
  to_i2 : to ≠ i2
  to_i3 : to ≠ i3
  i1_i2 : i1 ≠ i2
  i1_i3 : i1 ≠ i3
  i2_i3 : i2 ≠ i3
  l1_z : l1 ≠ z
  l1_to : l1 ≠ to
  l1_i1 : l1 ≠ i1
  l1_i2 : l1 ≠ i2
  l1_i3 : l1 ≠ i3
  l2_z : l2 ≠ z
  l2_to : l2 ≠ to
  l2_i1 : l2 ≠ i1
  l2_i2 : l2 ≠ i2
  l2_i3 : l2 ≠ i3
  l3_z : l3 ≠ z
  l3_to : l3 ≠ to
  l3_i1 : l3 ≠ i1
  l3_i2 : l3 ≠ i2
  l3_i3 : l3 ≠ i3
section
variable {prog : Program} {w : World} {A : Around} {E : Value → Shared → Prop} {s : Shared}
theorem item3 {z ti to i1 i2 i3 l1 l2 l3 : Addr} {c1 c2 c3 : Kd} {k : Nat} {v1 v2 v3 : Array Value} {x1 x2 x3 b1 b2 b3 : Value} {Q : Value → Shared → Prop} (W : Ap3 z ti to i1 i2 i3 l1 l2 l3) (hz : IsZip s.heap z ti to .none) (hi : Tp s.heap ti [.ref i1, .ref i2, .ref i3]) (ho : Tp s.heap to [b1, b2, b3]) (g1 : c1.it s.heap i1 l1 k) (g2 : c2.it s.heap i2 l2 k) (g3 : c3.it s.heap i3 l3 k) (q1 : c1.sq s.heap l1 v1) (q2 : c2.sq s.heap l2 v2) (q3 : c3.sq s.heap l3 v3) (e1 : v1[k]? = some x1) (e2 : v2[k]? = some x2) (e3 : v3[k]? = some x3)
    (hQ : ∀ h', IsZip h' z ti to (rawInt s.heap.objs.size) → Tp h' to [x1, x2, x3] → c1.it h' i1 l1 (k + 1) → c2.it h' i2 l2 (k + 1) → c3.it h' i3 l3 (k + 1) → Tp h' s.heap.objs.size [x1, x2, x3] → h'.objs.size = s.heap.objs.size + 1 → (∀ c o, c ≠ z → c ≠ to → c ≠ i1 → c ≠ i2 → c ≠ i3 → s.heap.get? c = some o → h'.get? c = some o) → Q (.ref s.heap.objs.size) { s with heap := h' }) :
    wpAny (model prog w) A (Builtin.«zip.__next__» ⟨[.ref z], []⟩) (fun fin s' => ∃ v, fin = .done (.ret v) ∧ Q v s') E s := by
  show wpAny _ _ (field (.ref z) 2 >>= _) _ _ s
  refine wpAny_bind (wpAny_field hz rfl (x := Value.bool false) rfl ?_)
  show wpAny _ _ (field (.ref z) 3 >>= _) _ _ s
  refine wpAny_bind (wpAny_field hz rfl (x := Value.ref ti) rfl ?_)
  refine wpAny_bind (wpAny_seqItems hi rfl ?_)
  show wpAny _ _ (Builtin.SmallTypes.ownedTupleIsFree (.ref z) >>= _) _ _ s
  refine wpAny_bind ?_
  unfold Builtin.SmallTypes.ownedTupleIsFree
  refine wpAny_bind (wpAny_field hz rfl (x := Value.none) rfl (wpAny_pure ?_))
  simp only [if_true]
  refine wpAny_bind (wpAny_rule ?_)
  refine wpAny_bind (wpAny_field hz rfl (x := Value.ref to) rfl ?_)
  refine wpAny_bind (wpAny_setField_rec hz (by simp) fun h1 z1 s1 => ?_)
  replace z1 : IsZip h1 z ti to .ellipsis := z1
  refine wpAny_bind ?_
  simp only [List.zipIdx_nil, List.zipIdx_cons, List.forIn_nil, List.forIn_cons]
  refine wpAny_bind (wpAny_bind (wpAny_onRaise ?_))
  show wpAny _ _ (Builtin.SmallTypes.nextOf (.ref i1) >>= _) _ _ _
  refine wpAny_bind (nx_item (it_eb (g1) s1.extBut (Ne.symm W.z_i1)) (sq_eb (q1) s1.extBut W.l1_z) e1 fun h2 m1 s2 => wpAny_pure ?_)
  have o2 : Tp h2 to [b1, b2, b3] := s2.extBut _ _ W.to_i1 (s1.extBut _ _ (Ne.symm W.z_to) (ho))
  refine wpAny_bind (wpAny_seqItems o2 rfl ?_)
  refine wpAny_bind (up_seq o2 (show 3 ≤ sizeLine by decide) fun h3 o3 s3 => ?_)
  replace o3 : Tp h3 to [x1, b2, b3] := o3
  refine wpAny_bind (wpAny_letGo (wpAny_pure ?_))
  refine wpAny_bind (wpAny_bind (wpAny_onRaise ?_))
  show wpAny _ _ (Builtin.SmallTypes.nextOf (.ref i2) >>= _) _ _ _
  refine wpAny_bind (nx_item (it_eb (it_eb (it_eb (g2) s1.extBut (Ne.symm W.z_i2)) s2.extBut (Ne.symm W.i1_i2)) s3.extBut (Ne.symm W.to_i2)) (sq_eb (sq_eb (sq_eb (q2) s1.extBut W.l2_z) s2.extBut W.l2_i1) s3.extBut W.l2_to) e2 fun h4 m2 s4 => wpAny_pure ?_)
  have o4 : Tp h4 to [x1, b2, b3] := s4.extBut _ _ W.to_i2 (o3)
  refine wpAny_bind (wpAny_seqItems o4 rfl ?_)
  refine wpAny_bind (up_seq o4 (show 3 ≤ sizeLine by decide) fun h5 o5 s5 => ?_)
  replace o5 : Tp h5 to [x1, x2, b3] := o5
  refine wpAny_bind (wpAny_letGo (wpAny_pure ?_))
  refine wpAny_bind (wpAny_bind (wpAny_onRaise ?_))
  show wpAny _ _ (Builtin.SmallTypes.nextOf (.ref i3) >>= _) _ _ _
  refine wpAny_bind (nx_item (it_eb (it_eb (it_eb (it_eb (it_eb (g3) s1.extBut (Ne.symm W.z_i3)) s2.extBut (Ne.symm W.i1_i3)) s3.extBut (Ne.symm W.to_i3)) s4.extBut (Ne.symm W.i2_i3)) s5.extBut (Ne.symm W.to_i3)) (sq_eb (sq_eb (sq_eb (sq_eb (sq_eb (q3) s1.extBut W.l3_z) s2.extBut W.l3_i1) s3.extBut W.l3_to) s4.extBut W.l3_i2) s5.extBut W.l3_to) e3 fun h6 m3 s6 => wpAny_pure ?_)
  have o6 : Tp h6 to [x1, x2, b3] := s6.extBut _ _ W.to_i3 (o5)
  refine wpAny_bind (wpAny_seqItems o6 rfl ?_)
  refine wpAny_bind (up_seq o6 (show 3 ≤ sizeLine by decide) fun h7 o7 s7 => ?_)
  replace o7 : Tp h7 to [x1, x2, x3] := o7
  refine wpAny_bind (wpAny_letGo (wpAny_pure (wpAny_pure ?_)))
  refine wpAny_bind (wpAny_seqItems o7 rfl ?_)
  refine wpAny_bind (wpAny_newTuple ?_)
  have sz : h7.objs.size = s.heap.objs.size := by rw [s7.1, s6.1, s5.1, s4.1, s3.1, s2.1, s1.1]
  have zz : IsZip h7 z ti to .ellipsis := s7.extBut _ _ W.z_to (s6.extBut _ _ W.z_i3 (s5.extBut _ _ W.z_to (s4.extBut _ _ W.z_i2 (s3.extBut _ _ W.z_to (s2.extBut _ _ W.z_i1 (z1))))))
  have kk : ∀ c o, c ≠ z → c ≠ to → c ≠ i1 → c ≠ i2 → c ≠ i3 → s.heap.get? c = some o → h7.get? c = some o := fun c o n_z n_to n_i1 n_i2 n_i3 e =>
    s7.extBut _ _ n_to (s6.extBut _ _ n_i3 (s5.extBut _ _ n_to (s4.extBut _ _ n_i2 (s3.extBut _ _ n_to (s2.extBut _ _ n_i1 (s1.extBut _ _ n_z (e)))))))
  have r1 : c1.it h7 i1 l1 (k + 1) := it_eb (it_eb (it_eb (it_eb (it_eb (m1) s3.extBut (Ne.symm W.to_i1)) s4.extBut W.i1_i2) s5.extBut (Ne.symm W.to_i1)) s6.extBut W.i1_i3) s7.extBut (Ne.symm W.to_i1)
  have r2 : c2.it h7 i2 l2 (k + 1) := it_eb (it_eb (it_eb (m2) s5.extBut (Ne.symm W.to_i2)) s6.extBut W.i2_i3) s7.extBut (Ne.symm W.to_i2)
  have r3 : c3.it h7 i3 l3 (k + 1) := it_eb (m3) s7.extBut (Ne.symm W.to_i3)
  have lt : z < h7.objs.size := Heap.lt_size zz
  show wpAny _ _ (Builtin.SmallTypes.ownedTupleHandOut (.ref z) (.ref h7.objs.size) >>= _) _ _ _
  refine wpAny_bind ?_
  unfold Builtin.SmallTypes.ownedTupleHandOut
  have zp : IsZip (h7.push { cls := .type "tuple", data := .seq #[x1, x2, x3] }) z ti to .ellipsis := Heap.get?_push_of_some _ zz
  refine wpAny_bind (wpAny_setField_rec zp (by simp) fun ha za sa => ?_)
  replace za : IsZip ha z ti to (rawInt h7.objs.size) := za
  refine wpAny_setField_rec za (by simp) fun hb zb sb => ?_
  replace zb : IsZip hb z ti to (rawInt h7.objs.size) := zb
  have up : ∀ c o, c ≠ z → h7.get? c = some o → hb.get? c = some o := fun c o n e => sb.extBut _ _ n (sa.extBut _ _ n (Heap.get?_push_of_some _ e))
  have nt : Tp hb h7.objs.size [x1, x2, x3] := sb.extBut _ _ (Nat.ne_of_gt lt) (sa.extBut _ _ (Nat.ne_of_gt lt) (Heap.get?_push_size _ rfl))
  have bz : hb.objs.size = h7.objs.size + 1 := by rw [sb.1, sa.1, Heap.size_push]
  rw [sz] at zb nt bz
  refine wpAny_pure ⟨_, rfl, ?_⟩
  show Q (.ref h7.objs.size) _
  rw [sz]
  exact hQ hb zb (up _ _ (Ne.symm W.z_to) o7) (it_at r1 fun o e => up _ o (Ne.symm W.z_i1) e) (it_at r2 fun o e => up _ o (Ne.symm W.z_i2) e) (it_at r3 fun o e => up _ o (Ne.symm W.z_i3) e) nt bz fun c o n_z n_to n_i1 n_i2 n_i3 e => up c o n_z (kk c o n_z n_to n_i1 n_i2 n_i3 e)

theorem end3 {z ti to i1 i2 i3 l1 l2 l3 : Addr} {c1 c2 c3 : Kd} {k : Nat} {v1 v2 v3 : Array Value} {b1 b2 b3 : Value} {Q : Fin → Shared → Prop} (hh : A.handled = none) (W : Ap3 z ti to i1 i2 i3 l1 l2 l3) (hz : IsZip s.heap z ti to .none) (hi : Tp s.heap ti [.ref i1, .ref i2, .ref i3]) (ho : Tp s.heap to [b1, b2, b3]) (g1 : c1.it s.heap i1 l1 k) (g2 : c2.it s.heap i2 l2 k) (g3 : c3.it s.heap i3 l3 k) (q1 : c1.sq s.heap l1 v1) (q2 : c2.sq s.heap l2 v2) (q3 : c3.sq s.heap l3 v3) (hend : v1[k]? = none ∨ v2[k]? = none ∨ v3[k]? = none)
    (hE : ∀ h' e, (∀ c o, c ≠ z → c ≠ to → c ≠ i1 → c ≠ i2 → c ≠ i3 → s.heap.get? c = some o → h'.get? c = some o) → (∃ o, h'.get? e = some o ∧ o.cls = .type "StopIteration") → E (.ref e) { s with heap := h' }) :
    wpAny (model prog w) A (Builtin.«zip.__next__» ⟨[.ref z], []⟩) Q E s := by
  show wpAny _ _ (field (.ref z) 2 >>= _) _ _ s
  refine wpAny_bind (wpAny_field hz rfl (x := Value.bool false) rfl ?_)
  show wpAny _ _ (field (.ref z) 3 >>= _) _ _ s
  refine wpAny_bind (wpAny_field hz rfl (x := Value.ref ti) rfl ?_)
  refine wpAny_bind (wpAny_seqItems hi rfl ?_)
  show wpAny _ _ (Builtin.SmallTypes.ownedTupleIsFree (.ref z) >>= _) _ _ s
  refine wpAny_bind ?_
  unfold Builtin.SmallTypes.ownedTupleIsFree
  refine wpAny_bind (wpAny_field hz rfl (x := Value.none) rfl (wpAny_pure ?_))
  simp only [if_true]
  refine wpAny_bind (wpAny_rule ?_)
  refine wpAny_bind (wpAny_field hz rfl (x := Value.ref to) rfl ?_)
  refine wpAny_bind (wpAny_setField_rec hz (by simp) fun h1 z1 s1 => ?_)
  replace z1 : IsZip h1 z ti to .ellipsis := z1
  refine wpAny_bind ?_
  simp only [List.zipIdx_nil, List.zipIdx_cons, List.forIn_nil, List.forIn_cons]
  cases e1 : v1[k]? with
  | none =>
    refine wpAny_bind (wpAny_bind (wpAny_onRaise ?_))
    show wpAny _ _ (Builtin.SmallTypes.nextOf (.ref i1) >>= _) _ _ _
    refine wpAny_bind (nx_end hh (it_eb (g1) s1.extBut (Ne.symm W.z_i1)) (sq_eb (q1) s1.extBut W.l1_z) e1 fun h2 e s2 he => ?_)
    obtain ⟨oe, hoe, hce⟩ := he
    have zz : IsZip h2 z ti to .ellipsis := s2 _ _ W.z_i1 (z1)
    have nz : e ≠ z := fun x => by subst x; rw [zz] at hoe; cases hoe; simp at hce
    refine wpAny_setField_rec zz (by simp) fun hl _ sl => hE hl e (fun c o n_z n_to n_i1 n_i2 n_i3 x => sl.extBut _ _ n_z (s2 _ _ n_i1 (s1.extBut _ _ n_z (x)))) ⟨oe, sl.extBut _ _ nz hoe, hce⟩
  | some x1 =>
    refine wpAny_bind (wpAny_bind (wpAny_onRaise ?_))
    show wpAny _ _ (Builtin.SmallTypes.nextOf (.ref i1) >>= _) _ _ _
    refine wpAny_bind (nx_item (it_eb (g1) s1.extBut (Ne.symm W.z_i1)) (sq_eb (q1) s1.extBut W.l1_z) e1 fun h2 m1 s2 => wpAny_pure ?_)
    have o2 : Tp h2 to [b1, b2, b3] := s2.extBut _ _ W.to_i1 (s1.extBut _ _ (Ne.symm W.z_to) (ho))
    refine wpAny_bind (wpAny_seqItems o2 rfl ?_)
    refine wpAny_bind (up_seq o2 (show 3 ≤ sizeLine by decide) fun h3 o3 s3 => ?_)
    replace o3 : Tp h3 to [x1, b2, b3] := o3
    refine wpAny_bind (wpAny_letGo (wpAny_pure ?_))
    cases e2 : v2[k]? with
    | none =>
      refine wpAny_bind (wpAny_bind (wpAny_onRaise ?_))
      show wpAny _ _ (Builtin.SmallTypes.nextOf (.ref i2) >>= _) _ _ _
      refine wpAny_bind (nx_end hh (it_eb (it_eb (it_eb (g2) s1.extBut (Ne.symm W.z_i2)) s2.extBut (Ne.symm W.i1_i2)) s3.extBut (Ne.symm W.to_i2)) (sq_eb (sq_eb (sq_eb (q2) s1.extBut W.l2_z) s2.extBut W.l2_i1) s3.extBut W.l2_to) e2 fun h4 e s4 he => ?_)
      obtain ⟨oe, hoe, hce⟩ := he
      have zz : IsZip h4 z ti to .ellipsis := s4 _ _ W.z_i2 (s3.extBut _ _ W.z_to (s2.extBut _ _ W.z_i1 (z1)))
      have nz : e ≠ z := fun x => by subst x; rw [zz] at hoe; cases hoe; simp at hce
      refine wpAny_setField_rec zz (by simp) fun hl _ sl => hE hl e (fun c o n_z n_to n_i1 n_i2 n_i3 x => sl.extBut _ _ n_z (s4 _ _ n_i2 (s3.extBut _ _ n_to (s2.extBut _ _ n_i1 (s1.extBut _ _ n_z (x)))))) ⟨oe, sl.extBut _ _ nz hoe, hce⟩
    | some x2 =>
      refine wpAny_bind (wpAny_bind (wpAny_onRaise ?_))
      show wpAny _ _ (Builtin.SmallTypes.nextOf (.ref i2) >>= _) _ _ _
      refine wpAny_bind (nx_item (it_eb (it_eb (it_eb (g2) s1.extBut (Ne.symm W.z_i2)) s2.extBut (Ne.symm W.i1_i2)) s3.extBut (Ne.symm W.to_i2)) (sq_eb (sq_eb (sq_eb (q2) s1.extBut W.l2_z) s2.extBut W.l2_i1) s3.extBut W.l2_to) e2 fun h4 m2 s4 => wpAny_pure ?_)
      have o4 : Tp h4 to [x1, b2, b3] := s4.extBut _ _ W.to_i2 (o3)
      refine wpAny_bind (wpAny_seqItems o4 rfl ?_)
      refine wpAny_bind (up_seq o4 (show 3 ≤ sizeLine by decide) fun h5 o5 s5 => ?_)
      replace o5 : Tp h5 to [x1, x2, b3] := o5
      refine wpAny_bind (wpAny_letGo (wpAny_pure ?_))
      cases e3 : v3[k]? with
      | none =>
        refine wpAny_bind (wpAny_bind (wpAny_onRaise ?_))
        show wpAny _ _ (Builtin.SmallTypes.nextOf (.ref i3) >>= _) _ _ _
        refine wpAny_bind (nx_end hh (it_eb (it_eb (it_eb (it_eb (it_eb (g3) s1.extBut (Ne.symm W.z_i3)) s2.extBut (Ne.symm W.i1_i3)) s3.extBut (Ne.symm W.to_i3)) s4.extBut (Ne.symm W.i2_i3)) s5.extBut (Ne.symm W.to_i3)) (sq_eb (sq_eb (sq_eb (sq_eb (sq_eb (q3) s1.extBut W.l3_z) s2.extBut W.l3_i1) s3.extBut W.l3_to) s4.extBut W.l3_i2) s5.extBut W.l3_to) e3 fun h6 e s6 he => ?_)
        obtain ⟨oe, hoe, hce⟩ := he
        have zz : IsZip h6 z ti to .ellipsis := s6 _ _ W.z_i3 (s5.extBut _ _ W.z_to (s4.extBut _ _ W.z_i2 (s3.extBut _ _ W.z_to (s2.extBut _ _ W.z_i1 (z1)))))
        have nz : e ≠ z := fun x => by subst x; rw [zz] at hoe; cases hoe; simp at hce
        refine wpAny_setField_rec zz (by simp) fun hl _ sl => hE hl e (fun c o n_z n_to n_i1 n_i2 n_i3 x => sl.extBut _ _ n_z (s6 _ _ n_i3 (s5.extBut _ _ n_to (s4.extBut _ _ n_i2 (s3.extBut _ _ n_to (s2.extBut _ _ n_i1 (s1.extBut _ _ n_z (x)))))))) ⟨oe, sl.extBut _ _ nz hoe, hce⟩
      | some x3 =>
        rcases hend with h | h | h
        · rw [e1] at h; cases h
        · rw [e2] at h; cases h
        · rw [e3] at h; cases h

theorem nextI3 {z ti to i1 i2 i3 l1 l2 l3 : Addr} {c1 c2 c3 : Kd} {k : Nat} {v1 v2 v3 : Array Value} {x1 x2 x3 b1 b2 b3 : Value} {Q : Option Value → Shared → Prop} (W : Ap3 z ti to i1 i2 i3 l1 l2 l3) (hz : IsZip s.heap z ti to .none) (hi : Tp s.heap ti [.ref i1, .ref i2, .ref i3]) (ho : Tp s.heap to [b1, b2, b3]) (g1 : c1.it s.heap i1 l1 k) (g2 : c2.it s.heap i2 l2 k) (g3 : c3.it s.heap i3 l3 k) (q1 : c1.sq s.heap l1 v1) (q2 : c2.sq s.heap l2 v2) (q3 : c3.sq s.heap l3 v3) (e1 : v1[k]? = some x1) (e2 : v2[k]? = some x2) (e3 : v3[k]? = some x3)
    (hQ : ∀ h', IsZip h' z ti to (rawInt s.heap.objs.size) → Tp h' to [x1, x2, x3] → c1.it h' i1 l1 (k + 1) → c2.it h' i2 l2 (k + 1) → c3.it h' i3 l3 (k + 1) → Tp h' s.heap.objs.size [x1, x2, x3] → h'.objs.size = s.heap.objs.size + 1 → (∀ c o, c ≠ z → c ≠ to → c ≠ i1 → c ≠ i2 → c ≠ i3 → s.heap.get? c = some o → h'.get? c = some o) → Q (some (.ref s.heap.objs.size)) { s with heap := h' }) :
    wpAny (model prog w) A (pyNext (.ref z)) Q E s := by
  have ty : s.TypeIs (.ref z) "zip" := ⟨_, hz, rfl⟩
  unfold pyNext
  exact wpAny_bind (wpAny_attempt (wpAny_callSpecial?_slot (name := Str.ofString "__next__") ty F.slot_zip_next
    (wpAny_call_entry F.slot_zip_next ty F.entry_zip_next (item3 W hz hi ho g1 g2 g3 q1 q2 q3 e1 e2 e3 fun h' a1 a2 r1 r2 r3 a3 a4 a5 => wpAny_pure (hQ h' a1 a2 r1 r2 r3 a3 a4 a5)) (F.args_zip_next_1 _))))
theorem nextE3 {z ti to i1 i2 i3 l1 l2 l3 : Addr} {c1 c2 c3 : Kd} {k : Nat} {v1 v2 v3 : Array Value} {b1 b2 b3 : Value} {Q : Option Value → Shared → Prop} (hh : A.handled = none) (W : Ap3 z ti to i1 i2 i3 l1 l2 l3) (hz : IsZip s.heap z ti to .none) (hi : Tp s.heap ti [.ref i1, .ref i2, .ref i3]) (ho : Tp s.heap to [b1, b2, b3]) (g1 : c1.it s.heap i1 l1 k) (g2 : c2.it s.heap i2 l2 k) (g3 : c3.it s.heap i3 l3 k) (q1 : c1.sq s.heap l1 v1) (q2 : c2.sq s.heap l2 v2) (q3 : c3.sq s.heap l3 v3) (hend : v1[k]? = none ∨ v2[k]? = none ∨ v3[k]? = none)
    (hQ : ∀ h', (∀ c o, c ≠ z → c ≠ to → c ≠ i1 → c ≠ i2 → c ≠ i3 → s.heap.get? c = some o → h'.get? c = some o) → Q none { s with heap := h' }) : wpAny (model prog w) A (pyNext (.ref z)) Q E s := by
  have ty : s.TypeIs (.ref z) "zip" := ⟨_, hz, rfl⟩
  unfold pyNext
  refine wpAny_bind (wpAny_attempt (wpAny_callSpecial?_slot (name := Str.ofString "__next__") ty F.slot_zip_next
    (wpAny_call_entry F.slot_zip_next ty F.entry_zip_next (end3 hh W hz hi ho g1 g2 g3 q1 q2 q3 hend fun h' e kp he => ?_) (F.args_zip_next_1 _))))
  obtain ⟨oe, hoe, hce⟩ := he
  refine wpAny_bind (wpAny_isInstance (T := "StopIteration") (b := true) ⟨oe, hoe, hce⟩ isSubtype_stop ?_)
  exact wpAny_pure (hQ _ kp)
end
abbrev zh3TTT_1 (hp : Heap) (l1 : Addr) : Heap := hp.push { cls := .type "tuple_iterator", data := .fields #[.ref l1, .int 0 0] }
abbrev zh3TTT_2 (hp : Heap) (l1 : Addr) (l2 : Addr) : Heap := (zh3TTT_1 hp l1).push { cls := .type "tuple_iterator", data := .fields #[.ref l2, .int 0 0] }
abbrev zh3TTT_3 (hp : Heap) (l1 : Addr) (l2 : Addr) (l3 : Addr) : Heap := (zh3TTT_2 hp l1 l2).push { cls := .type "tuple_iterator", data := .fields #[.ref l3, .int 0 0] }
abbrev zh3TTT_4 (hp : Heap) (l1 : Addr) (l2 : Addr) (l3 : Addr) : Heap := (zh3TTT_3 hp l1 l2 l3).push { cls := .type "tuple", data := .seq #[.ref hp.objs.size, .ref (zh3TTT_1 hp l1).objs.size, .ref (zh3TTT_2 hp l1 l2).objs.size] }
abbrev zh3TTT_5 (hp : Heap) (l1 : Addr) (l2 : Addr) (l3 : Addr) : Heap := (zh3TTT_4 hp l1 l2 l3).push { cls := .type "tuple", data := .seq #[.none, .none, .none] }
abbrev zh3TTT_6 (hp : Heap) (l1 : Addr) (l2 : Addr) (l3 : Addr) : Heap := (zh3TTT_5 hp l1 l2 l3).push { cls := .type "zip", data := .fields #[.none, .bool false, .bool false, .ref (zh3TTT_3 hp l1 l2 l3).objs.size, .ref (zh3TTT_4 hp l1 l2 l3).objs.size] }
theorem new3TTT (l1 l2 l3 : Addr) (v1 v2 v3 : Array Value) : Meets (Builtin.«zip.__new__» ⟨[.type "zip", .ref l1, .ref l2, .ref l3], []⟩) (fun _ R s => Kd.T.sq s.heap l1 v1 ∧ Kd.T.sq s.heap l2 v2 ∧ Kd.T.sq s.heap l3 v3 ∧
    R (.ok (.ret (.ref (zh3TTT_5 s.heap l1 l2 l3).objs.size))) { s with heap := (zh3TTT_6 s.heap l1 l2 l3) }) :=
  .of_wp fun prog w A R s h => by
    obtain ⟨hp, gg, dd, tk, os⟩ := s
    obtain ⟨q1, q2, q3, h⟩ := h
    have hsub := sub_zip
    have k1 : Heap.IsTuple (Shared.heap ⟨hp, gg, dd, tk, os⟩) l1 v1 := q1
    have k2 : Heap.IsTuple (Shared.heap ⟨(hp.push { cls := .type "tuple_iterator", data := .fields #[.ref l1, .int 0 0] }), gg, dd, tk, os⟩) l2 v2 := (Heap.IsTuple.push q2 _)
    have k3 : Heap.IsTuple (Shared.heap ⟨((hp.push { cls := .type "tuple_iterator", data := .fields #[.ref l1, .int 0 0] }).push { cls := .type "tuple_iterator", data := .fields #[.ref l2, .int 0 0] }), gg, dd, tk, os⟩) l3 v3 := (Heap.IsTuple.push (Heap.IsTuple.push q3 _) _)
    wp_walk using wpAny_pyIter_tuple k1, wpAny_pyIter_tuple k2, wpAny_pyIter_tuple k3
    exact ⟨_, rfl, h⟩

theorem tc3 (a b c : Value) : checkTypeCall "zip" ⟨[a, b, c], []⟩ = pure () := by kernel_rfl
theorem nc3 (a b c : Value) : checkBuiltinCall "zip.__new__" ⟨[.type "zip", a, b, c], []⟩ = pure () := by kernel_rfl
theorem ao4 (a b c d : Value) : argsOk "object.__init__" ⟨[a, b, c, d], []⟩ := by
  unfold argsOk
  rw [signature?_of (id := "object.__init__") (o := ['t', 'c', 'e', 'j', 'b', 'o']) (n := ['_', '_', 't', 'i', 'n', 'i', '_', '_']) (by kernel_rfl) F.owner_object]
  kernel_rfl
section
variable {prog : Program} {w : World} {A : Around} {E : Value → Shared → Prop} {s : Shared}
theorem call3TTT {l1 l2 l3 : Addr} {v1 v2 v3 : Array Value} {Q : Value → Shared → Prop} (q1 : Kd.T.sq s.heap l1 v1) (q2 : Kd.T.sq s.heap l2 v2) (q3 : Kd.T.sq s.heap l3 v3)
    (h : ∀ h', IsZip h' (s.heap.objs.size + 5) (s.heap.objs.size + 3) (s.heap.objs.size + 4) .none → Tp h' (s.heap.objs.size + 3) [.ref s.heap.objs.size, .ref (s.heap.objs.size + 1), .ref (s.heap.objs.size + 2)] → Tp h' (s.heap.objs.size + 4) [.none, .none, .none] → Kd.T.it h' s.heap.objs.size l1 0 → Kd.T.it h' (s.heap.objs.size + 1) l2 0 → Kd.T.it h' (s.heap.objs.size + 2) l3 0 → h'.objs.size = s.heap.objs.size + 6 → (∀ c o, s.heap.get? c = some o → h'.get? c = some o) → Q (.ref (s.heap.objs.size + 5)) { s with heap := h' }) :
    wpAny (model prog w) A (call (.type "zip") [.ref l1, .ref l2, .ref l3]) Q E s := by
  refine callType_new F.called_zip (by decide) (tc3 _ _ _) (nc3 _ _ _) (fun ob => ao4 ob _ _ _) F.entry_zip_new (new3TTT l1 l2 l3 v1 v2 v3) ⟨q1, q2, q3, ?_⟩
  have y1 : (zh3TTT_1 s.heap l1).objs.size = s.heap.objs.size + 1 := Heap.size_push ..
  have y2 : (zh3TTT_2 s.heap l1 l2).objs.size = s.heap.objs.size + 2 := by rw [Heap.size_push, y1]
  have y3 : (zh3TTT_3 s.heap l1 l2 l3).objs.size = s.heap.objs.size + 3 := by rw [Heap.size_push, y2]
  have y4 : (zh3TTT_4 s.heap l1 l2 l3).objs.size = s.heap.objs.size + 4 := by rw [Heap.size_push, y3]
  have y5 : (zh3TTT_5 s.heap l1 l2 l3).objs.size = s.heap.objs.size + 5 := by rw [Heap.size_push, y4]
  have y6 : (zh3TTT_6 s.heap l1 l2 l3).objs.size = s.heap.objs.size + 6 := by rw [Heap.size_push, y5]
  have f0 : (zh3TTT_6 s.heap l1 l2 l3).get? s.heap.objs.size = some _ := Heap.get?_push_of_some _ (Heap.get?_push_of_some _ (Heap.get?_push_of_some _ (Heap.get?_push_of_some _ (Heap.get?_push_of_some _ (Heap.get?_push_size _ rfl)))))
  have f1 : (zh3TTT_6 s.heap l1 l2 l3).get? (zh3TTT_1 s.heap l1).objs.size = some _ := Heap.get?_push_of_some _ (Heap.get?_push_of_some _ (Heap.get?_push_of_some _ (Heap.get?_push_of_some _ (Heap.get?_push_size _ rfl))))
  have f2 : (zh3TTT_6 s.heap l1 l2 l3).get? (zh3TTT_2 s.heap l1 l2).objs.size = some _ := Heap.get?_push_of_some _ (Heap.get?_push_of_some _ (Heap.get?_push_of_some _ (Heap.get?_push_size _ rfl)))
  have f3 : (zh3TTT_6 s.heap l1 l2 l3).get? (zh3TTT_3 s.heap l1 l2 l3).objs.size = some _ := Heap.get?_push_of_some _ (Heap.get?_push_of_some _ (Heap.get?_push_size _ rfl))
  have f4 : (zh3TTT_6 s.heap l1 l2 l3).get? (zh3TTT_4 s.heap l1 l2 l3).objs.size = some _ := Heap.get?_push_of_some _ (Heap.get?_push_size _ rfl)
  have f5 : (zh3TTT_6 s.heap l1 l2 l3).get? (zh3TTT_5 s.heap l1 l2 l3).objs.size = some _ := Heap.get?_push_size _ rfl
  show _ ∧ _
  rw [y3, y4, y5] at f5
  rw [y4] at f4
  rw [y1, y2, y3] at f3
  rw [y1] at f1
  rw [y2] at f2
  rw [y5]
  exact ⟨⟨_, f5, rfl⟩, h _ f5 f3 f4 ⟨_, f0, rfl, rfl⟩ ⟨_, f1, rfl, rfl⟩ ⟨_, f2, rfl, rfl⟩ y6 fun c o x => Heap.get?_push_of_some _ (Heap.get?_push_of_some _ (Heap.get?_push_of_some _ (Heap.get?_push_of_some _ (Heap.get?_push_of_some _ (Heap.get?_push_of_some _ (x))))))⟩
end

open PySem.Spec PyProof.Rows L2
def SqK (c : Kd) (K : PySem.W.Frag) (H : Hp) (a : Addr) (xs : List V) : Prop := match c with
  | .L => SqL K H a xs
  | .T => SqT K H a xs
theorem sqk {X : Cx} {pins : List (Addr × Obj)} {σ : L2.St} {H : Hp} {s : Shared} {c : Kd} {a : Addr} {xs : List V} (I : Inv X pins σ H s) (h : SqK c X.K H a xs) : ∃ us : List Value, Vals xs us ∧ c.sq s.heap a us.toArray := by
  cases c with
  | L => obtain ⟨us, r, p, _⟩ := I.list h; exact ⟨us, r, p.isList⟩
  | T => obtain ⟨us, r, p, _⟩ := I.tuple h; exact ⟨us, r, p⟩
theorem sqk_inj {X : Cx} {pins : List (Addr × Obj)} {σ : L2.St} {H : Hp} {s : Shared} {c : Kd} {a : Addr} {xs ys : List V} (I : Inv X pins σ H s) (h : SqK c X.K H a xs) (h' : SqK c X.K H a ys) : xs = ys := by
  cases c with
  | L => exact I.list_inj h h'
  | T => exact I.tuple_inj h h'
theorem sq_lt {c : Kd} {h : Heap} {a : Addr} {v : Array Value} (x : c.sq h a v) : a < h.objs.size := by
  cases c with
  | L => obtain ⟨o, e, _⟩ := x; exact Heap.lt_size e
  | T => obtain ⟨o, e, _⟩ := x; exact Heap.lt_size e
theorem it_lt {c : Kd} {h : Heap} {a l : Addr} {i : Nat} (x : c.it h a l i) : a < h.objs.size := by
  obtain ⟨o, e, _⟩ := it_obj x; exact Heap.lt_size e

def It2 (K : PySem.W.Frag) (c1 c2 : Kd) (l1 l2 : Addr) : It :=
  ⟨fun i H => ∃ (X1 X2 : List V) (x1 x2 : V), SqK c1 K H l1 X1 ∧ SqK c2 K H l2 X2 ∧ X1[i]? = some x1 ∧ X2[i]? = some x2,
    fun i H v H' => ∃ T x1 x2, v = .ref T ∧ H T = none ∧ H' = upd H T (.tup [x1, x2]) ∧ (∀ X, SqK c1 K H l1 X → X[i]? = some x1) ∧ (∀ X, SqK c2 K H l2 X → X[i]? = some x2),
    fun i H => ∃ X1 X2 : List V, SqK c1 K H l1 X1 ∧ SqK c2 K H l2 X2 ∧ (X1.length ≤ i ∨ X2.length ≤ i)⟩
theorem turn2 {P : Program} {w : World} {K : PySem.W.Frag} {elts : List Expr} {kk : Nat} {tpos : Pos} {c1 c2 : Kd} {z ti to i1 i2 l1 l2 : Addr} (W : Ap2 z ti to i1 i2 l1 l2) :
    Turn P w K (.Tuple elts kk tpos) (It2 K c1 c2 l1 l2) [z, ti, to, i1, i2] z (fun i h => IsZip h z ti to .none ∧ Tp h ti [.ref i1, .ref i2] ∧ (∃ b1 b2, Tp h to [b1, b2]) ∧ c1.it h i1 l1 i ∧ c2.it h i2 l2 i) where
  mem := List.mem_cons_self
  obj := fun i h st c hc => by
    obtain ⟨hz, hi, ⟨b1, b2, ho⟩, g1, g2⟩ := st
    have e : c = z ∨ c = ti ∨ c = to ∨ c = i1 ∨ c = i2 := by simpa using hc
    rcases e with rfl | rfl | rfl | rfl | rfl
    · exact ⟨_, hz, fun v q => nomatch q⟩
    · exact ⟨_, hi, fun v q => nomatch q⟩
    · exact ⟨_, ho, fun v q => nomatch q⟩
    · exact it_obj g1
    · exact it_obj g2
  keep := fun i h h' st k => by
    obtain ⟨hz, hi, ⟨b1, b2, ho⟩, g1, g2⟩ := st
    exact ⟨k z (by simp) _ hz, k ti (by simp) _ hi, ⟨b1, b2, k to (by simp) _ ho⟩, it_at g1 fun o q => k i1 (by simp) o q, it_at g2 fun o q => k i2 (by simp) o q⟩
  item := by
    intro X hP hw hK hc i pins s σ H E I hf st hg
    subst hP hw hK
    obtain ⟨hz, hi, ⟨b1, b2, ho⟩, g1, g2⟩ := st
    obtain ⟨X1, X2, x1, x2, k1, k2, e1, e2⟩ := hg
    obtain ⟨us1, rv1, q1⟩ := sqk I k1
    obtain ⟨us2, rv2, q2⟩ := sqk I k2
    obtain ⟨u1, hu1, ru1⟩ := rv1.get e1
    obtain ⟨u2, hu2, ru2⟩ := rv2.get e2
    have lz : z < s.heap.objs.size := Heap.lt_size hz
    refine nextI2 W hz hi ho g1 g2 q1 q2 (x1 := u1) (x2 := u2) (by simpa using hu1) (by simpa using hu2) fun h' z' o' r1 r2 hT hsz hk => ?_
    refine ⟨_, rfl, wpAny_letOwnedTupleGo_zip (s := { s with heap := h' }) z' fun h2 z2 sb => ?_⟩
    have nt : h2.get? s.heap.objs.size = some { cls := .type "tuple", data := .seq #[u1, u2] } := (sb.2 _ (Nat.ne_of_gt lz)).trans hT
    have new : ObjOk X.prog X.w (upd H s.heap.objs.size (.tup [x1, x2])) h2 s.heap.objs.size (.tup [x1, x2]) :=
      ⟨by show 2 ≤ sizeLine; decide, [u1, u2], .cons ru1 (.cons ru2 (.nil)), ⟨_, nt, rfl, _, rfl⟩⟩
    have I1 : Inv X pins σ (upd H s.heap.objs.size (.tup [x1, x2])) { s with heap := h2 } :=
      I.turnedNew (t' := s.toks) (ch := [z, ti, to, i1, i2]) (fun c o hb q => (sb.2 c (fun q' => hb (by simp [q']))).trans (hk c o (fun q' => hb (by simp [q'])) (fun q' => hb (by simp [q'])) (fun q' => hb (by simp [q'])) (fun q' => hb (by simp [q'])) q)) hf (Nat.le_refl _) new
    refine ⟨.ref s.heap.objs.size, _, I1, rfl, ⟨_, x1, x2, rfl, I.hok.fresh (Nat.le_refl _), rfl, fun l hl => by rw [sqk_inj I hl k1]; exact e1, fun l hl => by rw [sqk_inj I hl k2]; exact e2⟩, ⟨z2, (sb.2 _ (Ne.symm W.z_ti)).trans (hk _ _ (Ne.symm W.z_ti) W.ti_to W.ti_i1 W.ti_i2 hi), ⟨u1, u2, (sb.2 _ (Ne.symm W.z_to)).trans o'⟩, it_at r1 fun o q => (sb.2 _ (Ne.symm W.z_i1)).trans q, it_at r2 fun o q => (sb.2 _ (Ne.symm W.z_i2)).trans q⟩, fun c hcm => ?_⟩
    have lt : c < s.heap.objs.size := by
      have e : c = z ∨ c = ti ∨ c = to ∨ c = i1 ∨ c = i2 := by simpa using hcm
      rcases e with rfl | rfl | rfl | rfl | rfl
      · exact lz
      · exact Heap.lt_size hi
      · exact Heap.lt_size ho
      · exact it_lt g1
      · exact it_lt g2
    rw [upd_ne (Nat.ne_of_lt lt)]
    exact (hf c hcm).1
  done := by
    intro X hP hw hK hc i pins s σ H E I hf st hg
    subst hP hw hK
    obtain ⟨hz, hi, ⟨b1, b2, ho⟩, g1, g2⟩ := st
    obtain ⟨X1, X2, k1, k2, hend⟩ := hg
    obtain ⟨us1, rv1, q1⟩ := sqk I k1
    obtain ⟨us2, rv2, q2⟩ := sqk I k2
    have he : us1.toArray[i]? = none ∨ us2.toArray[i]? = none := by
      have y1 := rv1.length
      have y2 := rv2.length
      rcases hend with q | q
      · exact .inl (by simp; omega)
      · exact .inr ((by simp; omega))
    exact nextE2 (I.ok.hd hc) W hz hi ho g1 g2 q1 q2 he fun h' hk => ⟨rfl, I.turnedL (t' := s.toks) (ch := [z, ti, to, i1, i2]) (fun c o hb q => hk c o (fun q' => hb (by simp [q'])) (fun q' => hb (by simp [q'])) (fun q' => hb (by simp [q'])) (fun q' => hb (by simp [q'])) q) hf⟩
  self := fun A i s Q E st h => wpAny_pyIter_zip st.1 h

def It3 (K : PySem.W.Frag) (c1 c2 c3 : Kd) (l1 l2 l3 : Addr) : It :=
  ⟨fun i H => ∃ (X1 X2 X3 : List V) (x1 x2 x3 : V), SqK c1 K H l1 X1 ∧ SqK c2 K H l2 X2 ∧ SqK c3 K H l3 X3 ∧ X1[i]? = some x1 ∧ X2[i]? = some x2 ∧ X3[i]? = some x3,
    fun i H v H' => ∃ T x1 x2 x3, v = .ref T ∧ H T = none ∧ H' = upd H T (.tup [x1, x2, x3]) ∧ (∀ X, SqK c1 K H l1 X → X[i]? = some x1) ∧ (∀ X, SqK c2 K H l2 X → X[i]? = some x2) ∧ (∀ X, SqK c3 K H l3 X → X[i]? = some x3),
    fun i H => ∃ X1 X2 X3 : List V, SqK c1 K H l1 X1 ∧ SqK c2 K H l2 X2 ∧ SqK c3 K H l3 X3 ∧ (X1.length ≤ i ∨ X2.length ≤ i ∨ X3.length ≤ i)⟩
theorem turn3 {P : Program} {w : World} {K : PySem.W.Frag} {elts : List Expr} {kk : Nat} {tpos : Pos} {c1 c2 c3 : Kd} {z ti to i1 i2 i3 l1 l2 l3 : Addr} (W : Ap3 z ti to i1 i2 i3 l1 l2 l3) :
    Turn P w K (.Tuple elts kk tpos) (It3 K c1 c2 c3 l1 l2 l3) [z, ti, to, i1, i2, i3] z (fun i h => IsZip h z ti to .none ∧ Tp h ti [.ref i1, .ref i2, .ref i3] ∧ (∃ b1 b2 b3, Tp h to [b1, b2, b3]) ∧ c1.it h i1 l1 i ∧ c2.it h i2 l2 i ∧ c3.it h i3 l3 i) where
  mem := List.mem_cons_self
  obj := fun i h st c hc => by
    obtain ⟨hz, hi, ⟨b1, b2, b3, ho⟩, g1, g2, g3⟩ := st
    have e : c = z ∨ c = ti ∨ c = to ∨ c = i1 ∨ c = i2 ∨ c = i3 := by simpa using hc
    rcases e with rfl | rfl | rfl | rfl | rfl | rfl
    · exact ⟨_, hz, fun v q => nomatch q⟩
    · exact ⟨_, hi, fun v q => nomatch q⟩
    · exact ⟨_, ho, fun v q => nomatch q⟩
    · exact it_obj g1
    · exact it_obj g2
    · exact it_obj g3
  keep := fun i h h' st k => by
    obtain ⟨hz, hi, ⟨b1, b2, b3, ho⟩, g1, g2, g3⟩ := st
    exact ⟨k z (by simp) _ hz, k ti (by simp) _ hi, ⟨b1, b2, b3, k to (by simp) _ ho⟩, it_at g1 fun o q => k i1 (by simp) o q, it_at g2 fun o q => k i2 (by simp) o q, it_at g3 fun o q => k i3 (by simp) o q⟩
  item := by
    intro X hP hw hK hc i pins s σ H E I hf st hg
    subst hP hw hK
    obtain ⟨hz, hi, ⟨b1, b2, b3, ho⟩, g1, g2, g3⟩ := st
    obtain ⟨X1, X2, X3, x1, x2, x3, k1, k2, k3, e1, e2, e3⟩ := hg
    obtain ⟨us1, rv1, q1⟩ := sqk I k1
    obtain ⟨us2, rv2, q2⟩ := sqk I k2
    obtain ⟨us3, rv3, q3⟩ := sqk I k3
    obtain ⟨u1, hu1, ru1⟩ := rv1.get e1
    obtain ⟨u2, hu2, ru2⟩ := rv2.get e2
    obtain ⟨u3, hu3, ru3⟩ := rv3.get e3
    have lz : z < s.heap.objs.size := Heap.lt_size hz
    refine nextI3 W hz hi ho g1 g2 g3 q1 q2 q3 (x1 := u1) (x2 := u2) (x3 := u3) (by simpa using hu1) (by simpa using hu2) (by simpa using hu3) fun h' z' o' r1 r2 r3 hT hsz hk => ?_
    refine ⟨_, rfl, wpAny_letOwnedTupleGo_zip (s := { s with heap := h' }) z' fun h2 z2 sb => ?_⟩
    have nt : h2.get? s.heap.objs.size = some { cls := .type "tuple", data := .seq #[u1, u2, u3] } := (sb.2 _ (Nat.ne_of_gt lz)).trans hT
    have new : ObjOk X.prog X.w (upd H s.heap.objs.size (.tup [x1, x2, x3])) h2 s.heap.objs.size (.tup [x1, x2, x3]) :=
      ⟨by show 3 ≤ sizeLine; decide, [u1, u2, u3], .cons ru1 (.cons ru2 (.cons ru3 (.nil))), ⟨_, nt, rfl, _, rfl⟩⟩
    have I1 : Inv X pins σ (upd H s.heap.objs.size (.tup [x1, x2, x3])) { s with heap := h2 } :=
      I.turnedNew (t' := s.toks) (ch := [z, ti, to, i1, i2, i3]) (fun c o hb q => (sb.2 c (fun q' => hb (by simp [q']))).trans (hk c o (fun q' => hb (by simp [q'])) (fun q' => hb (by simp [q'])) (fun q' => hb (by simp [q'])) (fun q' => hb (by simp [q'])) (fun q' => hb (by simp [q'])) q)) hf (Nat.le_refl _) new
    refine ⟨.ref s.heap.objs.size, _, I1, rfl, ⟨_, x1, x2, x3, rfl, I.hok.fresh (Nat.le_refl _), rfl, fun l hl => by rw [sqk_inj I hl k1]; exact e1, fun l hl => by rw [sqk_inj I hl k2]; exact e2, fun l hl => by rw [sqk_inj I hl k3]; exact e3⟩, ⟨z2, (sb.2 _ (Ne.symm W.z_ti)).trans (hk _ _ (Ne.symm W.z_ti) W.ti_to W.ti_i1 W.ti_i2 W.ti_i3 hi), ⟨u1, u2, u3, (sb.2 _ (Ne.symm W.z_to)).trans o'⟩, it_at r1 fun o q => (sb.2 _ (Ne.symm W.z_i1)).trans q, it_at r2 fun o q => (sb.2 _ (Ne.symm W.z_i2)).trans q, it_at r3 fun o q => (sb.2 _ (Ne.symm W.z_i3)).trans q⟩, fun c hcm => ?_⟩
    have lt : c < s.heap.objs.size := by
      have e : c = z ∨ c = ti ∨ c = to ∨ c = i1 ∨ c = i2 ∨ c = i3 := by simpa using hcm
      rcases e with rfl | rfl | rfl | rfl | rfl | rfl
      · exact lz
      · exact Heap.lt_size hi
      · exact Heap.lt_size ho
      · exact it_lt g1
      · exact it_lt g2
      · exact it_lt g3
    rw [upd_ne (Nat.ne_of_lt lt)]
    exact (hf c hcm).1
  done := by
    intro X hP hw hK hc i pins s σ H E I hf st hg
    subst hP hw hK
    obtain ⟨hz, hi, ⟨b1, b2, b3, ho⟩, g1, g2, g3⟩ := st
    obtain ⟨X1, X2, X3, k1, k2, k3, hend⟩ := hg
    obtain ⟨us1, rv1, q1⟩ := sqk I k1
    obtain ⟨us2, rv2, q2⟩ := sqk I k2
    obtain ⟨us3, rv3, q3⟩ := sqk I k3
    have he : us1.toArray[i]? = none ∨ us2.toArray[i]? = none ∨ us3.toArray[i]? = none := by
      have y1 := rv1.length
      have y2 := rv2.length
      have y3 := rv3.length
      rcases hend with q | q | q
      · exact .inl (by simp; omega)
      · exact .inr (.inl (by simp; omega))
      · exact .inr (.inr ((by simp; omega)))
    exact nextE3 (I.ok.hd hc) W hz hi ho g1 g2 g3 q1 q2 q3 he fun h' hk => ⟨rfl, I.turnedL (t' := s.toks) (ch := [z, ti, to, i1, i2, i3]) (fun c o hb q => hk c o (fun q' => hb (by simp [q'])) (fun q' => hb (by simp [q'])) (fun q' => hb (by simp [q'])) (fun q' => hb (by simp [q'])) (fun q' => hb (by simp [q'])) q) hf⟩
  self := fun A i s Q E st h => wpAny_pyIter_zip st.1 h

theorem ap2 {m l1 l2 : Nat} (h1 : l1 < m) (h2 : l2 < m) : Ap2 (m + 4) (m + 2) (m + 3) m (m + 1) l1 l2 := by
  constructor <;> first | exact Nat.ne_of_gt (by omega) | exact Nat.ne_of_lt (by omega)
def iZip2TL (K : PySem.W.Frag) (ta : TA) : TI := fun σ H R => ta σ H fun vs H1 => ∃ l1 l2, ∃ X1 X2 : List V, vs = [.ref l1, .ref l2] ∧ SqK .T K H1 l1 X1 ∧ SqK .L K H1 l2 X2 ∧ R (It2 K .T .L l1 l2) H1
theorem run2TL {X : Cx} {elts : List Expr} {kk : Nat} {tpos : Pos} {pins : List (Addr × Obj)} {σ : L2.St} {H1 : Hp} {s1 : Shared} {R : It → Hp → Prop} {l1 l2 : Addr} {X1 X2 : List V} (I1 : Inv X pins σ H1 s1) (k1 : SqK .T X.K H1 l1 X1) (k2 : SqK .L X.K H1 l2 X2) (q : R (It2 X.K .T .L l1 l2) H1) :
    wpAny (model X.prog X.w) X.A (call (.type "zip") [.ref l1, .ref l2]) (fun v s => wpAny (model X.prog X.w) X.A (pyIter v) (PIE X pins σ (.Tuple elts kk tpos) R) X.xe s) X.xe s1 := by
  obtain ⟨us1, rv1, q1⟩ := sqk I1 k1
  obtain ⟨us2, rv2, q2⟩ := sqk I1 k2
  refine call2TL q1 q2 fun h' hz hi ho g1 g2 hsz hk => wpAny_pyIter_zip hz ?_
  have I2 : Inv X pins σ H1 { s1 with heap := h' } := I1.kept (t' := s1.toks) hk
  refine ⟨(s1.heap.objs.size + 4), [(s1.heap.objs.size + 4), (s1.heap.objs.size + 2), (s1.heap.objs.size + 3), s1.heap.objs.size, (s1.heap.objs.size + 1)], _, _, H1, rfl, I2, turn2 (ap2 (sq_lt q1) (sq_lt q2)), ⟨hz, hi, ⟨_, _, ho⟩, g1, g2⟩, fun c hcm => ?_, q⟩
  have le : s1.heap.objs.size ≤ c := by
    have e : c = (s1.heap.objs.size + 4) ∨ c = (s1.heap.objs.size + 2) ∨ c = (s1.heap.objs.size + 3) ∨ c = s1.heap.objs.size ∨ c = (s1.heap.objs.size + 1) := by simpa using hcm
    rcases e with e | e | e | e | e <;> rw [e] <;> first | exact Nat.le_refl _ | exact Nat.le_add_right _ _
  exact I1.fpOk le (I1.hok.fresh le)

theorem ap3 {m l1 l2 l3 : Nat} (h1 : l1 < m) (h2 : l2 < m) (h3 : l3 < m) : Ap3 (m + 5) (m + 3) (m + 4) m (m + 1) (m + 2) l1 l2 l3 := by
  constructor <;> first | exact Nat.ne_of_gt (by omega) | exact Nat.ne_of_lt (by omega)
def iZip3TTT (K : PySem.W.Frag) (ta : TA) : TI := fun σ H R => ta σ H fun vs H1 => ∃ l1 l2 l3, ∃ X1 X2 X3 : List V, vs = [.ref l1, .ref l2, .ref l3] ∧ SqK .T K H1 l1 X1 ∧ SqK .T K H1 l2 X2 ∧ SqK .T K H1 l3 X3 ∧ R (It3 K .T .T .T l1 l2 l3) H1
theorem run3TTT {X : Cx} {elts : List Expr} {kk : Nat} {tpos : Pos} {pins : List (Addr × Obj)} {σ : L2.St} {H1 : Hp} {s1 : Shared} {R : It → Hp → Prop} {l1 l2 l3 : Addr} {X1 X2 X3 : List V} (I1 : Inv X pins σ H1 s1) (k1 : SqK .T X.K H1 l1 X1) (k2 : SqK .T X.K H1 l2 X2) (k3 : SqK .T X.K H1 l3 X3) (q : R (It3 X.K .T .T .T l1 l2 l3) H1) :
    wpAny (model X.prog X.w) X.A (call (.type "zip") [.ref l1, .ref l2, .ref l3]) (fun v s => wpAny (model X.prog X.w) X.A (pyIter v) (PIE X pins σ (.Tuple elts kk tpos) R) X.xe s) X.xe s1 := by
  obtain ⟨us1, rv1, q1⟩ := sqk I1 k1
  obtain ⟨us2, rv2, q2⟩ := sqk I1 k2
  obtain ⟨us3, rv3, q3⟩ := sqk I1 k3
  refine call3TTT q1 q2 q3 fun h' hz hi ho g1 g2 g3 hsz hk => wpAny_pyIter_zip hz ?_
  have I2 : Inv X pins σ H1 { s1 with heap := h' } := I1.kept (t' := s1.toks) hk
  refine ⟨(s1.heap.objs.size + 5), [(s1.heap.objs.size + 5), (s1.heap.objs.size + 3), (s1.heap.objs.size + 4), s1.heap.objs.size, (s1.heap.objs.size + 1), (s1.heap.objs.size + 2)], _, _, H1, rfl, I2, turn3 (ap3 (sq_lt q1) (sq_lt q2) (sq_lt q3)), ⟨hz, hi, ⟨_, _, _, ho⟩, g1, g2, g3⟩, fun c hcm => ?_, q⟩
  have le : s1.heap.objs.size ≤ c := by
    have e : c = (s1.heap.objs.size + 5) ∨ c = (s1.heap.objs.size + 3) ∨ c = (s1.heap.objs.size + 4) ∨ c = s1.heap.objs.size ∨ c = (s1.heap.objs.size + 1) ∨ c = (s1.heap.objs.size + 2) := by simpa using hcm
    rcases e with e | e | e | e | e | e <;> rw [e] <;> first | exact Nat.le_refl _ | exact Nat.le_add_right _ _
  exact I1.fpOk le (I1.hok.fresh le)


/-- zip(a, b): two lists, two tuples, a tuple and a list -/
def iZipB (K : PySem.W.Frag) (ta : TA) : TI := fun σ H R => ta σ H fun vs H1 => ∃ a b, ∃ xs ys : List V, vs = [.ref a, .ref b] ∧ ((SqL K H1 a xs ∧ SqL K H1 b ys ∧ R (Itz K a b) H1) ∨ (SqT K H1 a xs ∧ SqT K H1 b ys ∧ R (RZ.ItzT K a b) H1) ∨ (SqT K H1 a xs ∧ SqL K H1 b ys ∧ R (It2 K .T .L a b) H1))
theorem pi_zipB {X : Cx} {e d : Expr} {ta : TA} {p pos tpos : Pos} {elts : List Expr} {kk : Nat} (hg : Gl X "zip") (hm : X.mg "zip" = none) (ha : PA X [e, d] ta)
    (hs : starEach [e, d] X.env = (false, eval e X.env) :: starEach [d] X.env := by rfl) (hpl : (backTo pos (starEach [d] X.env)).any (·.1) = false := by rfl) :
    PI X (.Tuple elts kk tpos) (.Call (.Name "zip" p) [e, d] [] pos) (iZipB X.K ta) := by
  refine ⟨fun pins s σ H R I h => ?_⟩
  refine Call_ (ld_blt I hg hm PyProof.Rows.boot_zip (PyProof.Rows.callWith_type1 (thn (ha.run pos pins s σ H _ I h) fun us s1 ⟨vs, H1, I1, r1, q1⟩ => ?_) hs hpl))
  obtain ⟨a, b, xs, ys, ex, q1⟩ := q1
  subst ex
  cases r1 with
  | cons ra rr =>
    cases rr with
    | cons rb rr =>
      cases rr
      cases ra
      cases rb
      rcases q1 with ⟨k1, k2, q⟩ | ⟨k1, k2, q⟩ | ⟨k1, k2, q⟩
      · have h0 : (RZ.iZipA X.K (fun σ H Q => Q [.ref a, .ref b] H)) σ H1 R := ⟨a, b, xs, ys, rfl, .inl ⟨k1, k2, q⟩⟩
        obtain ⟨u1, rv1, p1, _⟩ := I1.list k1
        obtain ⟨u2, rv2, p2, _⟩ := I1.list k2
        refine call_zip_2 p1.isList p2.isList fun h' hz hi ho g1 g2 hsz hk => wpAny_pyIter_zip hz ?_
        have I2 : Inv X pins σ H1 { s1 with heap := h' } := I1.kept (t' := s1.toks) hk
        refine ⟨s1.heap.objs.size + 4, [s1.heap.objs.size + 4, s1.heap.objs.size + 2, s1.heap.objs.size + 3, s1.heap.objs.size, s1.heap.objs.size + 1], _, _, H1, rfl, I2, turn_zip (PySem.W.ktu_apart s1.heap.objs.size a b p1.lt p2.lt), ⟨hz, hi, ⟨_, _, ho⟩, g1, g2⟩, fun c hcm => ?_, q⟩
        have le : s1.heap.objs.size ≤ c := by
          have e : c = s1.heap.objs.size + 4 ∨ c = s1.heap.objs.size + 2 ∨ c = s1.heap.objs.size + 3 ∨ c = s1.heap.objs.size ∨ c = s1.heap.objs.size + 1 := by simpa using hcm
          rcases e with e | e | e | e | e <;> rw [e] <;> first | exact Nat.le_refl _ | exact Nat.le_add_right _ _
        exact I1.fpOk le (I1.hok.fresh le)
      · obtain ⟨u1, rv1, p1, _⟩ := I1.tuple k1
        obtain ⟨u2, rv2, p2, _⟩ := I1.tuple k2
        refine RZ.call_zipT p1 p2 fun h' hz hi ho g1 g2 hsz hk => wpAny_pyIter_zip hz ?_
        have I2 : Inv X pins σ H1 { s1 with heap := h' } := I1.kept (t' := s1.toks) hk
        refine ⟨s1.heap.objs.size + 4, [s1.heap.objs.size + 4, s1.heap.objs.size + 2, s1.heap.objs.size + 3, s1.heap.objs.size, s1.heap.objs.size + 1], _, _, H1, rfl, I2, RZ.turn_zipT (PySem.W.ktu_apart s1.heap.objs.size a b (sq_lt (c := .T) p1) (sq_lt (c := .T) p2)), ⟨hz, hi, ⟨_, _, ho⟩, g1, g2⟩, fun c hcm => ?_, q⟩
        have le : s1.heap.objs.size ≤ c := by
          have e : c = s1.heap.objs.size + 4 ∨ c = s1.heap.objs.size + 2 ∨ c = s1.heap.objs.size + 3 ∨ c = s1.heap.objs.size ∨ c = s1.heap.objs.size + 1 := by simpa using hcm
          rcases e with e | e | e | e | e <;> rw [e] <;> first | exact Nat.le_refl _ | exact Nat.le_add_right _ _
        exact I1.fpOk le (I1.hok.fresh le)
      · exact run2TL I1 k1 k2 q
/-- zip of three tuples -/
theorem pi_zip3 {X : Cx} {e d f : Expr} {ta : TA} {p pos tpos : Pos} {elts : List Expr} {kk : Nat} (hg : Gl X "zip") (hm : X.mg "zip" = none) (ha : PA X [e, d, f] ta)
    (hs : starEach [e, d, f] X.env = (false, eval e X.env) :: starEach [d, f] X.env := by rfl) (hpl : (backTo pos (starEach [d, f] X.env)).any (·.1) = false := by rfl) :
    PI X (.Tuple elts kk tpos) (.Call (.Name "zip" p) [e, d, f] [] pos) (iZip3TTT X.K ta) := by
  refine ⟨fun pins s σ H R I h => ?_⟩
  refine Call_ (ld_blt I hg hm PyProof.Rows.boot_zip (PyProof.Rows.callWith_type1 (thn (ha.run pos pins s σ H _ I h) fun us s1 ⟨vs, H1, I1, r1, q1⟩ => ?_) hs hpl))
  obtain ⟨l1, l2, l3, X1, X2, X3, ex, k1, k2, k3, q⟩ := q1
  subst ex
  cases r1 with
  | cons ra rr =>
    cases rr with
    | cons rb rr =>
      cases rr with
      | cons rc rr =>
        cases rr
        cases ra
        cases rb
        cases rc
        exact run3TTT I1 k1 k2 k3 q

end ZN

/-! zip of a tuple and a list, of three tuples: readings. -/
namespace PL
open PySem PySem.Spec PyProof.Rows L2
theorem wk_TL {K : PySem.W.Frag} {S1 : Sto} {H1 : Hp} {a b : Addr} {vs : List V} {xs ys : List Pv} {g2 : Sto → Prop} (rs1 : RepS K H1 S1) (h1 : SqT K H1 a vs) (r1 : RepVs K H1 S1 xs vs) (h2 : ∀ S H, Ext S1 H1 S H → RepS K H S → g2 S → ∃ us, SqL K H b us ∧ RepVs K H S ys us) : Wk K S1 H1 (ZN.It2 K .T .L a b) (zipP xs ys) g2 := by
  refine ⟨fun S H i z e rs g hz => ?_, fun S H e rs g => ?_⟩
  · obtain ⟨x, y, hx, hy, rfl⟩ := zipP_get hz
    obtain ⟨v, hv, rv⟩ := (RepVs.ext rs1 e _ _ r1).get hx
    have q1 := SqT.ext rs1 e h1
    obtain ⟨us, q2, r2⟩ := h2 S H e rs g
    obtain ⟨u, hu, ru⟩ := r2.get hy
    refine ⟨⟨vs, us, v, u, q1, q2, hv, hu⟩, fun w H' yl => ?_⟩
    obtain ⟨T, x', y', rfl, nT, rfl, f1, f2⟩ := yl
    have e1 := f1 vs q1
    have e2 := f2 us q2
    rw [hv] at e1; cases e1
    rw [hu] at e2; cases e2
    exact pair_new rs nT rv ru
  · obtain ⟨us, q2, r2⟩ := h2 S H e rs g
    refine ⟨vs, us, SqT.ext rs1 e h1, q2, ?_⟩
    unfold zipP
    rw [List.length_zipWith, r1.len, r2.len]
    omega
def fZipB (fs : PFs) : PFI := fun ρ S Q => fs ρ S fun ps S1 => match ps with
  | [.tup xs, .tup ys] => Q (zipP xs ys) tru S1
  | [.tup xs, y] => (match rdL S1 y with
    | some ys => Q (zipP xs ys) (gdL S1 y ys) S1
    | none => False)
  | [x, y] => (match rdL S1 x, rdL S1 y with
    | some xs, some ys => Q (zipP xs ys) (fun S' => gdL S1 x xs S' ∧ gdL S1 y ys S') S1
    | _, _ => False)
  | _ => False
section
variable {X : Cx} {S0 : Sto} {H0 : Hp} {a b d : Expr} {pos p : Pos}
theorem pit_zipB {elts : List Expr} {kk : Nat} {tpos : Pos} {fs : PFs} (hm : X.mg "zip" = none) (ha : PVs X S0 H0 [a, b] fs) (hg : Gl X "zip" := by rfl) (hs : starEach [a, b] X.env = (false, eval a X.env) :: starEach [b] X.env := by rfl) (hpl : (backTo pos (starEach [b] X.env)).any (·.1) = false := by rfl) :
    PIt X S0 H0 (.Tuple elts kk tpos) (.Call (.Name "zip" p) [a, b] [] pos) (fZipB fs) := by
  refine ⟨fun ρ S Q Q' i q => ha.mono _ _ _ _ (fun ps S1 q => ?_) q, PI.imp (ZN.pi_zipB hg hm ha.pa hs hpl) fun σ H R ⟨ρ, S, re, rs, ex, q⟩ => ?_⟩
  · split at q
    · exact i _ _ _ q
    · split at q
      · exact i _ _ _ q
      · exact q
    · split at q
      · exact i _ _ _ q
      · exact q
    · exact q
  · refine ⟨ρ, S, re, rs, ex, ha.mono _ _ _ _ (fun ps S1 q vs H1 rv rs1 ex1 => ?_) q⟩
    split at q
    · obtain ⟨v, u, rfl, r, r'⟩ := rv.two
      obtain ⟨l1, vs1, e1, h1, r1⟩ := r
      obtain ⟨l2, vs2, e2, h2, r2⟩ := r'
      exact ⟨l1, l2, vs1, vs2, by rw [e1, e2], .inr (.inl ⟨h1, h2, q _ H1 (wk_zipT rs1 h1 h2 r1 r2) rs1 ex1⟩)⟩
    · obtain ⟨v, u, rfl, r, r'⟩ := rv.two
      split at q
      · rename_i ys e2
        obtain ⟨l1, vs1, e1, h1, r1⟩ := r
        obtain ⟨l2, w2, k2⟩ := rdL_stay rs1 r' e2
        obtain ⟨l2', vs2, w2', h2, _⟩ := rdL_rep rs1 r' e2
        rw [w2] at w2'; cases w2'
        exact ⟨l1, l2, vs1, vs2, by rw [e1, w2], .inr (.inr ⟨h1, h2, q _ H1 (wk_TL rs1 h1 r1 k2) rs1 ex1⟩)⟩
      · exact q.elim
    · obtain ⟨v, u, rfl, r, r'⟩ := rv.two
      split at q
      · rename_i xs ys e1 e2
        obtain ⟨l1, w1, k1⟩ := rdL_stay rs1 r e1
        obtain ⟨l2, w2, k2⟩ := rdL_stay rs1 r' e2
        obtain ⟨l1', vs1, w1', h1, _⟩ := rdL_rep rs1 r e1
        obtain ⟨l2', vs2, w2', h2, _⟩ := rdL_rep rs1 r' e2
        rw [w1] at w1'; cases w1'
        rw [w2] at w2'; cases w2'
        exact ⟨l1, l2, vs1, vs2, by rw [w1, w2], .inl ⟨h1, h2, q _ H1 (wk_zipL k1 k2) rs1 ex1⟩⟩
      · exact q.elim
    · exact q.elim
/-! ### three tuples -/
def zip3P : List Pv → List Pv → List Pv → List Pv
  | x :: xs, y :: ys, z :: zs => .tup [x, y, z] :: zip3P xs ys zs
  | _, _, _ => []
theorem zip3P_get : ∀ {xs ys zs : List Pv} {i : Nat} {w : Pv}, (zip3P xs ys zs)[i]? = some w → ∃ x y z, xs[i]? = some x ∧ ys[i]? = some y ∧ zs[i]? = some z ∧ w = .tup [x, y, z]
  | x :: xs, y :: ys, z :: zs, 0, w, h => ⟨x, y, z, rfl, rfl, rfl, by simpa [zip3P] using h.symm⟩
  | x :: xs, y :: ys, z :: zs, i + 1, w, h => by
    obtain ⟨x', y', z', a, b, c, e⟩ := zip3P_get (xs := xs) (ys := ys) (zs := zs) (i := i) (w := w) (by simpa [zip3P] using h)
    exact ⟨x', y', z', by simpa using a, by simpa using b, by simpa using c, e⟩
  | [], _, _, _, _, h => by simp [zip3P] at h
  | _ :: _, [], _, _, _, h => by simp [zip3P] at h
  | _ :: _, _ :: _, [], _, _, h => by simp [zip3P] at h
theorem zip3P_len : ∀ (xs ys zs : List Pv), xs.length ≤ (zip3P xs ys zs).length ∨ ys.length ≤ (zip3P xs ys zs).length ∨ zs.length ≤ (zip3P xs ys zs).length
  | x :: xs, y :: ys, z :: zs => by
    have h := zip3P_len xs ys zs
    simp only [zip3P, List.length_cons]
    omega
  | [], _, _ => by simp
  | _ :: _, [], _ => by simp
  | _ :: _, _ :: _, [] => by simp
theorem wk_zip3 {K : PySem.W.Frag} {S1 : Sto} {H1 : Hp} {a b c : Addr} {vs us ws : List V} {xs ys zs : List Pv} (rs1 : RepS K H1 S1) (h1 : SqT K H1 a vs) (h2 : SqT K H1 b us) (h3 : SqT K H1 c ws) (r1 : RepVs K H1 S1 xs vs) (r2 : RepVs K H1 S1 ys us) (r3 : RepVs K H1 S1 zs ws) : Wk K S1 H1 (ZN.It3 K .T .T .T a b c) (zip3P xs ys zs) tru := by
  refine ⟨fun S H i z e rs g hz => ?_, fun S H e rs g => ?_⟩
  · obtain ⟨x, y, w, hx, hy, hw, rfl⟩ := zip3P_get hz
    obtain ⟨v1, hv1, rv1⟩ := (RepVs.ext rs1 e _ _ r1).get hx
    obtain ⟨v2, hv2, rv2⟩ := (RepVs.ext rs1 e _ _ r2).get hy
    obtain ⟨v3, hv3, rv3⟩ := (RepVs.ext rs1 e _ _ r3).get hw
    have q1 := SqT.ext rs1 e h1
    have q2 := SqT.ext rs1 e h2
    have q3 := SqT.ext rs1 e h3
    refine ⟨⟨vs, us, ws, v1, v2, v3, q1, q2, q3, hv1, hv2, hv3⟩, fun w H' yl => ?_⟩
    obtain ⟨T, x', y', z', rfl, nT, rfl, f1, f2, f3⟩ := yl
    have e1 := f1 vs q1
    have e2 := f2 us q2
    have e3 := f3 ws q3
    rw [hv1] at e1; cases e1
    rw [hv2] at e2; cases e2
    rw [hv3] at e3; cases e3
    exact newT_k rs nT ⟨v1, [v2, v3], rfl, rv1, v2, [v3], rfl, rv2, v3, [], rfl, rv3, rfl⟩
  · refine ⟨vs, us, ws, SqT.ext rs1 e h1, SqT.ext rs1 e h2, SqT.ext rs1 e h3, ?_⟩
    have h := zip3P_len xs ys zs
    rw [r1.len, r2.len, r3.len]
    exact h
def fZip3 (fs : PFs) : PFI := fun ρ S Q => fs ρ S fun ps S1 => match ps with
  | [.tup xs, .tup ys, .tup zs] => Q (zip3P xs ys zs) tru S1
  | _ => False
theorem pit_zip3 {elts : List Expr} {kk : Nat} {tpos : Pos} {fs : PFs} (hm : X.mg "zip" = none) (ha : PVs X S0 H0 [a, b, d] fs) (hg : Gl X "zip" := by rfl) (hs : starEach [a, b, d] X.env = (false, eval a X.env) :: starEach [b, d] X.env := by rfl) (hpl : (backTo pos (starEach [b, d] X.env)).any (·.1) = false := by rfl) :
    PIt X S0 H0 (.Tuple elts kk tpos) (.Call (.Name "zip" p) [a, b, d] [] pos) (fZip3 fs) := by
  refine ⟨fun ρ S Q Q' i q => ha.mono _ _ _ _ (fun ps S1 q => ?_) q, PI.imp (ZN.pi_zip3 hg hm ha.pa hs hpl) fun σ H R ⟨ρ, S, re, rs, ex, q⟩ => ?_⟩
  · split at q
    · exact i _ _ _ q
    · exact q
  · refine ⟨ρ, S, re, rs, ex, ha.mono _ _ _ _ (fun ps S1 q vs H1 rv rs1 ex1 => ?_) q⟩
    split at q
    · obtain ⟨v, r, rfl, r1, rr⟩ := rv
      obtain ⟨u, w, rfl, r2, r3⟩ := rr.two
      obtain ⟨l1, vs1, e1, h1, r1⟩ := r1
      obtain ⟨l2, vs2, e2, h2, r2⟩ := r2
      obtain ⟨l3, vs3, e3, h3, r3⟩ := r3
      exact ⟨l1, l2, l3, vs1, vs2, vs3, by rw [e1, e2, e3], h1, h2, h3, q _ H1 (wk_zip3 rs1 h1 h2 h3 r1 r2 r3) rs1 ex1⟩
    · exact q.elim
end
end PL

/-! list(zip(a, b)) -/
namespace ZN
open PySem
open PySem.Sem (wp)
/-- a zip as it stands: what it says of its tuple -/
abbrev ZS (h : Heap) (z ti to : Addr) (f : Value) (b : Bool) : Prop := h.get? z = some { cls := .type "zip", dict := none, data := .fields #[f, .bool b, .bool false, .ref ti, .ref to], slots := #[] }
section
variable {prog : Program} {w : World} {A : Around} {E : Value → Shared → Prop} {s : Shared}
theorem alive {a : Addr} {Q : Option Obj → Shared → Prop} (h : Q (s.heap.get? a) s) : wpAny (model prog w) A (loadIfAlive a) Q E s := fun Γ p _ => by
  show Sem.wp _ Γ (.loadIfAlive a .pure) _ _ p s
  rw [Sem.wp_loadIfAlive, Sem.wp_pure]
  exact h
theorem notFree {z ti to T : Addr} {b : Bool} {Q : Bool → Shared → Prop} (hz : ZS s.heap z ti to (rawInt T) b) (hT : ∃ o, s.heap.get? T = some o)
    (hQ : ∀ h', ZS h' z ti to (rawInt T) true → Heap.SameBut z s.heap h' → Q false { s with heap := h' }) : wpAny (model prog w) A (Builtin.SmallTypes.ownedTupleIsFree (.ref z)) Q E s := by
  obtain ⟨o, ho⟩ := hT
  unfold Builtin.SmallTypes.ownedTupleIsFree
  refine wpAny_bind (wpAny_field hz rfl (x := rawInt T) rfl ?_)
  show wpAny _ _ (loadIfAlive ((T : Int)).toNat >>= _) _ _ _
  refine wpAny_bind (alive ?_)
  rw [Int.toNat_natCast, ho]
  show wpAny _ _ (field (.ref z) 1 >>= _) _ _ _
  refine wpAny_bind (wpAny_field hz rfl (x := .bool b) rfl ?_)
  cases b with
  | false =>
    show wpAny _ _ (setField (.ref z) 1 (.bool true) >>= _) _ _ _
    exact wpAny_bind (wpAny_setField_rec hz (by simp) fun h1 z1 s1 => wpAny_pure (hQ h1 z1 s1))
  | true => exact wpAny_pure (hQ _ hz ⟨rfl, fun _ _ => rfl⟩)
theorem item2b {z ti to i1 i2 l1 l2 T : Addr} {b : Bool} {c1 c2 : Kd} {k : Nat} {v1 v2 : Array Value} {x1 x2 : Value} {Q : Value → Shared → Prop} (W : Ap2 z ti to i1 i2 l1 l2) (hz : ZS s.heap z ti to (rawInt T) b) (hT : ∃ o, s.heap.get? T = some o) (hi : Tp s.heap ti [.ref i1, .ref i2]) (g1 : c1.it s.heap i1 l1 k) (g2 : c2.it s.heap i2 l2 k) (q1 : c1.sq s.heap l1 v1) (q2 : c2.sq s.heap l2 v2) (e1 : v1[k]? = some x1) (e2 : v2[k]? = some x2)
    (hQ : ∀ h', ZS h' z ti to (rawInt T) true → c1.it h' i1 l1 (k + 1) → c2.it h' i2 l2 (k + 1) → Tp h' s.heap.objs.size [x1, x2] → (∀ c o, c ≠ z → c ≠ i1 → c ≠ i2 → s.heap.get? c = some o → h'.get? c = some o) → Q (.ref s.heap.objs.size) { s with heap := h' }) :
    wpAny (model prog w) A (Builtin.«zip.__next__» ⟨[.ref z], []⟩) (fun fin s' => ∃ v, fin = .done (.ret v) ∧ Q v s') E s := by
  show wpAny _ _ (field (.ref z) 2 >>= _) _ _ s
  refine wpAny_bind (wpAny_field hz rfl (x := Value.bool false) rfl ?_)
  show wpAny _ _ (field (.ref z) 3 >>= _) _ _ s
  refine wpAny_bind (wpAny_field hz rfl (x := Value.ref ti) rfl ?_)
  refine wpAny_bind (wpAny_seqItems hi rfl ?_)
  show wpAny _ _ (Builtin.SmallTypes.ownedTupleIsFree (.ref z) >>= _) _ _ s
  refine wpAny_bind (notFree hz hT fun h1 z1 s1 => ?_)
  simp only [Bool.false_eq_true, if_false]
  refine wpAny_bind ?_
  rw [← Array.forIn_toList]
  simp only [List.forIn_cons, List.forIn_nil]
  refine wpAny_bind (wpAny_bind (wpAny_holding ?_))
  show wpAny _ _ (Builtin.SmallTypes.nextOf (.ref i1) >>= _) _ _ _
  refine wpAny_bind (nx_item (it_eb g1 s1.extBut (Ne.symm W.z_i1)) (sq_eb q1 s1.extBut W.l1_z) e1 fun h2 m1 s2 => wpAny_pure (wpAny_pure ?_))
  refine wpAny_bind (wpAny_bind (wpAny_holding ?_))
  show wpAny _ _ (Builtin.SmallTypes.nextOf (.ref i2) >>= _) _ _ _
  refine wpAny_bind (nx_item (it_eb (it_eb g2 s1.extBut (Ne.symm W.z_i2)) s2.extBut (Ne.symm W.i1_i2)) (sq_eb (sq_eb q2 s1.extBut W.l2_z) s2.extBut W.l2_i1) e2 fun h3 m2 s3 => wpAny_pure (wpAny_pure (wpAny_pure ?_)))
  show wpAny _ _ (newTuple [x1, x2] >>= _) _ _ _
  refine wpAny_bind (wpAny_newTuple ?_)
  have sz : h3.objs.size = s.heap.objs.size := by rw [s3.1, s2.1, s1.1]
  have z3 : ZS h3 z ti to (rawInt T) true := s3.extBut _ _ W.z_i2 (s2.extBut _ _ W.z_i1 z1)
  refine wpAny_pure ⟨.ref h3.objs.size, rfl, ?_⟩
  rw [sz]
  refine hQ _ (Heap.get?_push_of_some _ z3) (it_at (it_eb m1 s3.extBut W.i1_i2) fun o e => Heap.get?_push_of_some _ e) (it_at m2 fun o e => Heap.get?_push_of_some _ e) ?_ fun c o n_z n_i1 n_i2 e => Heap.get?_push_of_some _ (s3.extBut _ _ n_i2 (s2.extBut _ _ n_i1 (s1.extBut _ _ n_z e)))
  rw [← sz]
  exact Heap.get?_push_size _ rfl
theorem end2b {z ti to i1 i2 l1 l2 T : Addr} {b : Bool} {c1 c2 : Kd} {k : Nat} {v1 v2 : Array Value} {Q : Fin → Shared → Prop} (hh : A.handled = none) (W : Ap2 z ti to i1 i2 l1 l2) (hz : ZS s.heap z ti to (rawInt T) b) (hT : ∃ o, s.heap.get? T = some o) (hi : Tp s.heap ti [.ref i1, .ref i2]) (g1 : c1.it s.heap i1 l1 k) (g2 : c2.it s.heap i2 l2 k) (q1 : c1.sq s.heap l1 v1) (q2 : c2.sq s.heap l2 v2) (hend : v1[k]? = none ∨ v2[k]? = none)
    (hE : ∀ h' e, (∀ c o, c ≠ z → c ≠ to → c ≠ i1 → c ≠ i2 → s.heap.get? c = some o → h'.get? c = some o) → (∃ o, h'.get? e = some o ∧ o.cls = .type "StopIteration") → E (.ref e) { s with heap := h' }) :
    wpAny (model prog w) A (Builtin.«zip.__next__» ⟨[.ref z], []⟩) Q E s := by
  show wpAny _ _ (field (.ref z) 2 >>= _) _ _ s
  refine wpAny_bind (wpAny_field hz rfl (x := Value.bool false) rfl ?_)
  show wpAny _ _ (field (.ref z) 3 >>= _) _ _ s
  refine wpAny_bind (wpAny_field hz rfl (x := Value.ref ti) rfl ?_)
  refine wpAny_bind (wpAny_seqItems hi rfl ?_)
  show wpAny _ _ (Builtin.SmallTypes.ownedTupleIsFree (.ref z) >>= _) _ _ s
  refine wpAny_bind (notFree hz hT fun h1 z1 s1 => ?_)
  simp only [Bool.false_eq_true, if_false]
  refine wpAny_bind ?_
  rw [← Array.forIn_toList]
  simp only [List.forIn_cons, List.forIn_nil]
  refine wpAny_bind (wpAny_bind (wpAny_holding ?_))
  show wpAny _ _ (Builtin.SmallTypes.nextOf (.ref i1) >>= _) _ _ _
  cases e1 : v1[k]? with
  | none =>
    refine wpAny_bind (nx_end hh (it_eb g1 s1.extBut (Ne.symm W.z_i1)) (sq_eb q1 s1.extBut W.l1_z) e1 fun h2 e s2 he => ?_)
    exact hE h2 e (fun c o n_z n_to n_i1 n_i2 x => s2 _ _ n_i1 (s1.extBut _ _ n_z x)) he
  | some x1 =>
    have e2 : v2[k]? = none := hend.elim (fun h => by rw [e1] at h; cases h) id
    refine wpAny_bind (nx_item (it_eb g1 s1.extBut (Ne.symm W.z_i1)) (sq_eb q1 s1.extBut W.l1_z) e1 fun h2 m1 s2 => wpAny_pure (wpAny_pure ?_))
    refine wpAny_bind (wpAny_bind (wpAny_holding ?_))
    show wpAny _ _ (Builtin.SmallTypes.nextOf (.ref i2) >>= _) _ _ _
    refine wpAny_bind (nx_end hh (it_eb (it_eb g2 s1.extBut (Ne.symm W.z_i2)) s2.extBut (Ne.symm W.i1_i2)) (sq_eb (sq_eb q2 s1.extBut W.l2_z) s2.extBut W.l2_i1) e2 fun h3 e s3 he => ?_)
    exact hE h3 e (fun c o n_z n_to n_i1 n_i2 x => s3 _ _ n_i2 (s2.extBut _ _ n_i1 (s1.extBut _ _ n_z x))) he
/-- where the zip stands at its i-th turn, its tuples being kept -/
def ZAt (h : Heap) (z ti to i1 i2 : Addr) (i : Nat) : Prop := (i = 0 ∧ IsZip h z ti to .none) ∨ (0 < i ∧ ∃ (T : Addr) (b : Bool), ZS h z ti to (rawInt T) b ∧ (∃ o, h.get? T = some o) ∧ T ≠ z ∧ T ≠ to ∧ T ≠ i1 ∧ T ≠ i2)
theorem nextL {z ti to i1 i2 l1 l2 : Addr} {c1 c2 : Kd} {k : Nat} {v1 v2 : Array Value} {x1 x2 b1 b2 : Value} {Q : Option Value → Shared → Prop} (W : Ap2 z ti to i1 i2 l1 l2) (hz : ZAt s.heap z ti to i1 i2 k) (hi : Tp s.heap ti [.ref i1, .ref i2]) (ho : Tp s.heap to [b1, b2]) (g1 : c1.it s.heap i1 l1 k) (g2 : c2.it s.heap i2 l2 k) (q1 : c1.sq s.heap l1 v1) (q2 : c2.sq s.heap l2 v2) (e1 : v1[k]? = some x1) (e2 : v2[k]? = some x2)
    (hQ : ∀ h', ZAt h' z ti to i1 i2 (k + 1) → (∃ b1 b2, Tp h' to [b1, b2]) → c1.it h' i1 l1 (k + 1) → c2.it h' i2 l2 (k + 1) → Tp h' s.heap.objs.size [x1, x2] → (∀ c o, c ≠ z → c ≠ to → c ≠ i1 → c ≠ i2 → s.heap.get? c = some o → h'.get? c = some o) → Q (some (.ref s.heap.objs.size)) { s with heap := h' }) :
    wpAny (model prog w) A (pyNext (.ref z)) Q E s := by
  rcases hz with ⟨rfl, hz⟩ | ⟨hk, T, b, hz, ⟨oT, hT⟩, t1, t2, t3, t4⟩
  · have nz : s.heap.objs.size ≠ z := Nat.ne_of_gt (Heap.lt_size hz)
    have nt : s.heap.objs.size ≠ to := Nat.ne_of_gt (Heap.lt_size ho)
    exact nextI2 W hz hi ho g1 g2 q1 q2 e1 e2 fun h' a1 a2 r1 r2 a3 a4 a5 => hQ h' (.inr ⟨Nat.succ_pos _, _, false, a1, ⟨_, a3⟩, nz, nt, Nat.ne_of_gt (it_lt g1), Nat.ne_of_gt (it_lt g2)⟩) ⟨_, _, a2⟩ r1 r2 a3 a5
  · have ty : s.TypeIs (.ref z) "zip" := ⟨_, hz, rfl⟩
    unfold pyNext
    refine wpAny_bind (wpAny_attempt (wpAny_callSpecial?_slot (name := Str.ofString "__next__") ty F.slot_zip_next
      (wpAny_call_entry F.slot_zip_next ty F.entry_zip_next (item2b W hz ⟨oT, hT⟩ hi g1 g2 q1 q2 e1 e2 fun h' a1 r1 r2 a3 a5 => wpAny_pure (hQ h' (.inr ⟨Nat.succ_pos _, T, true, a1, ⟨oT, a5 _ _ t1 t3 t4 hT⟩, t1, t2, t3, t4⟩) ⟨b1, b2, a5 _ _ (Ne.symm W.z_to) W.to_i1 W.to_i2 ho⟩ r1 r2 a3 fun c o n1 n2 n3 n4 e => a5 c o n1 n3 n4 e)) (F.args_zip_next_1 _))))
theorem nextLE {z ti to i1 i2 l1 l2 : Addr} {c1 c2 : Kd} {k : Nat} {v1 v2 : Array Value} {b1 b2 : Value} {Q : Option Value → Shared → Prop} (hh : A.handled = none) (W : Ap2 z ti to i1 i2 l1 l2) (hz : ZAt s.heap z ti to i1 i2 k) (hi : Tp s.heap ti [.ref i1, .ref i2]) (ho : Tp s.heap to [b1, b2]) (g1 : c1.it s.heap i1 l1 k) (g2 : c2.it s.heap i2 l2 k) (q1 : c1.sq s.heap l1 v1) (q2 : c2.sq s.heap l2 v2) (hend : v1[k]? = none ∨ v2[k]? = none)
    (hQ : ∀ h', (∀ c o, c ≠ z → c ≠ to → c ≠ i1 → c ≠ i2 → s.heap.get? c = some o → h'.get? c = some o) → Q none { s with heap := h' }) : wpAny (model prog w) A (pyNext (.ref z)) Q E s := by
  rcases hz with ⟨rfl, hz⟩ | ⟨hk, T, b, hz, hT, _⟩
  · exact nextE2 hh W hz hi ho g1 g2 q1 q2 hend hQ
  · have ty : s.TypeIs (.ref z) "zip" := ⟨_, hz, rfl⟩
    unfold pyNext
    refine wpAny_bind (wpAny_attempt (wpAny_callSpecial?_slot (name := Str.ofString "__next__") ty F.slot_zip_next
      (wpAny_call_entry F.slot_zip_next ty F.entry_zip_next (end2b hh W hz hT hi g1 g2 q1 q2 hend fun h' e kp he => ?_) (F.args_zip_next_1 _))))
    obtain ⟨oe, hoe, hce⟩ := he
    refine wpAny_bind (wpAny_isInstance (T := "StopIteration") (b := true) ⟨oe, hoe, hce⟩ isSubtype_stop ?_)
    exact wpAny_pure (hQ _ kp)
end
open PySem.Spec PyProof.Rows L2
/-- new pairs, one behind the other -/
def Pairs : Hp → List (V × V) → Hp → List Addr → Prop
  | H, [], H', ts => H' = H ∧ ts = []
  | H, p :: r, H', ts => ∃ T us, ts = T :: us ∧ H T = none ∧ Pairs (upd H T (.tup [p.1, p.2])) r H' us
/-- what list(zip(..)) walks -/
structure LzA (X : Cx) (pins : List (Addr × Obj)) (z ti to i1 i2 l1 l2 S : Addr) (c1 c2 : Kd) (X1 X2 : List V) (i : Nat) (H : Hp) (h : Heap) : Prop where
  zip : ZAt h z ti to i1 i2 i
  inn : Tp h ti [.ref i1, .ref i2]
  out : ∃ b1 b2, Tp h to [b1, b2]
  g1 : c1.it h i1 l1 i
  g2 : c2.it h i2 l2 i
  k1 : SqK c1 X.K H l1 X1
  k2 : SqK c2 X.K H l2 X2
  fp : ∀ b ∈ [S, z, ti, to, i1, i2], FpOk X pins H b
theorem sqk_upd {c : Kd} {K : PySem.W.Frag} {H : Hp} {a T : Addr} {xs : List V} {o : HO} (h : SqK c K H a xs) (n : H T = none) : SqK c K (upd H T o) a xs := by
  have st : ∀ u, Rd H a u → Rd (upd H T o) a u := fun u r => by
    rcases r with r | ⟨ob, r⟩
    · exact .inl (by rw [upd_ne (ne_of_none r n)]; exact r)
    · exact .inr ⟨ob, by rw [upd_ne (ne_of_none r n)]; exact r⟩
  cases c with
  | L => exact h.imp (st _) id
  | T => exact h.imp (st _) id
theorem sq_sz {X : Cx} {pins : List (Addr × Obj)} {σ : L2.St} {H : Hp} {s : Shared} {c : Kd} {a : Addr} {xs : List V} (I : Inv X pins σ H s) (h : SqK c X.K H a xs) : xs.length ≤ sizeLine := by
  cases c with
  | L => obtain ⟨_, _, _, z⟩ := I.list h; exact z
  | T => obtain ⟨_, _, _, z⟩ := I.tuple h; exact z
theorem lz_loop {X : Cx} {pins : List (Addr × Obj)} {σ : L2.St} {A : Around} {R : Result → Shared → Prop} {z ti to i1 i2 l1 l2 S : Addr} {c1 c2 : Kd} {X1 X2 : List V} {res : Value} (hh : A.in1.handled = none) (W : Ap2 z ti to i1 i2 l1 l2) (nS : S ≠ z ∧ S ≠ ti ∧ S ≠ to ∧ S ≠ i1 ∧ S ≠ i2) :
    ∀ (zs : List (V × V)) (i : Nat) (s : Shared) (H : Hp) (as : List Addr) (c : Nat), (X1.zip X2).drop i = zs → i ≤ (X1.zip X2).length → Inv X pins σ H s → LzA X pins z ti to i1 i2 l1 l2 S c1 c2 X1 X2 i H s.heap →
      s.heap.get? S = some { cls := .type "list", dict := none, data := .seq (as.map Value.ref).toArray c, slots := #[] } → as.length = i →
      (∀ H' us s' c', Pairs H zs H' us → Inv X pins σ H' s' → FpOk X pins H' S → s'.heap.get? S = some { cls := .type "list", dict := none, data := .seq ((as ++ us).map Value.ref).toArray c', slots := #[] } → R (.ok (.ret res)) s') →
      codeAny (model X.prog X.w) A (.builtin "list.extend.loop" ⟨[.ref S, .ref z, res], []⟩) R s
  | [], i, s, H, as, c, ez, hi, I, L, hS, hl, hR => by
    refine codeAny_builtin F.entry_extend_loop ?_
    rw [Around.under_plainId F.plain_extend_loop _]
    show wpAny _ A.in1 (pyNext (.ref z) >>= _) _ _ s
    obtain ⟨b1, b2, ho⟩ := L.out
    obtain ⟨us1, rv1, q1⟩ := sqk I L.k1
    obtain ⟨us2, rv2, q2⟩ := sqk I L.k2
    have he : us1.toArray[i]? = none ∨ us2.toArray[i]? = none := by
      have y1 := rv1.length
      have y2 := rv2.length
      have y3 : (X1.zip X2).length ≤ i := List.drop_eq_nil_iff.mp ez
      rw [List.length_zip] at y3
      simp only [List.getElem?_toArray, List.getElem?_eq_none_iff]
      omega
    refine wpAny_bind (nextLE hh W L.zip L.inn ho L.g1 L.g2 q1 q2 he fun h' hk => ?_)
    have I2 : Inv X pins σ H { s with heap := h' } := I.turnedL (t' := s.toks) (ch := [S, z, ti, to, i1, i2]) (fun b o hb q => hk b o (fun e => hb (by simp [e])) (fun e => hb (by simp [e])) (fun e => hb (by simp [e])) (fun e => hb (by simp [e])) q) L.fp
    exact wpAny_pure (hR H [] _ c ⟨rfl, rfl⟩ I2 (L.fp S (by simp)) (by rw [List.append_nil]; exact hk _ _ nS.1 nS.2.2.1 nS.2.2.2.1 nS.2.2.2.2 hS))
  | p :: zs, i, s, H, as, c, ez, hi, I, L, hS, hl, hR => by
    refine codeAny_builtin F.entry_extend_loop ?_
    rw [Around.under_plainId F.plain_extend_loop _]
    show wpAny _ A.in1 (pyNext (.ref z) >>= _) _ _ s
    obtain ⟨b1, b2, ho⟩ := L.out
    obtain ⟨us1, rv1, q1⟩ := sqk I L.k1
    obtain ⟨us2, rv2, q2⟩ := sqk I L.k2
    have hp : (X1.zip X2)[i]? = some p := by
      have : ((X1.zip X2).drop i)[0]? = some p := by rw [ez]; rfl
      rw [List.getElem?_drop] at this
      simpa using this
    have hlt : i < (X1.zip X2).length := (List.getElem?_eq_some_iff.mp hp).1
    obtain ⟨hp1, hp2⟩ := List.getElem?_zip_eq_some.mp hp
    obtain ⟨u1, hu1, ru1⟩ := rv1.get hp1
    obtain ⟨u2, hu2, ru2⟩ := rv2.get hp2
    refine wpAny_bind (nextL W L.zip L.inn ho L.g1 L.g2 q1 q2 (x1 := u1) (x2 := u2) (by simpa using hu1) (by simpa using hu2) fun h' z' o' r1 r2 hT hk => ?_)
    have hlT : s.heap.objs.size ≠ S := Nat.ne_of_gt (Heap.lt_size hS)
    have hS' := hk _ _ nS.1 nS.2.2.1 nS.2.2.2.1 nS.2.2.2.2 hS
    show wpAny _ A.in1 (updateSeq S (·.push (.ref s.heap.objs.size)) >>= _) _ _ _
    have sz1 := sq_sz I L.k1
    have hn : (X1.zip X2).length ≤ sizeLine := by rw [List.length_zip]; omega
    refine wpAny_bind (wpAny_updateSeq hS' rfl (wpAny_pure ⟨plainId_quiet F.plain_extend_loop _, ?_⟩) (by simp only [List.size_toArray, List.length_map]; omega) (by simp only [Array.size_push, List.size_toArray, List.length_map]; omega))
    have oth : ∀ b o, b ≠ S → h'.get? b = some o → (h'.update S (Obj.mapSeq (·.push (.ref s.heap.objs.size)))).get? b = some o := fun b o hb e => (Heap.get?_update_other _ _ (Ne.symm hb)).trans e
    have nt := oth _ _ hlT hT
    have new : ObjOk X.prog X.w (upd H s.heap.objs.size (.tup [p.1, p.2])) (h'.update S (Obj.mapSeq (·.push (.ref s.heap.objs.size)))) s.heap.objs.size (.tup [p.1, p.2]) :=
      ⟨by show 2 ≤ sizeLine; decide, [u1, u2], .cons ru1 (.cons ru2 .nil), ⟨_, nt, rfl, _, rfl⟩⟩
    have I2 : Inv X pins σ (upd H s.heap.objs.size (.tup [p.1, p.2])) { s with heap := h'.update S (Obj.mapSeq (·.push (.ref s.heap.objs.size))) } :=
      I.turnedNew (t' := s.toks) (ch := [S, z, ti, to, i1, i2]) (fun b o hb q => oth b o (fun e => hb (by simp [e])) (hk b o (fun e => hb (by simp [e])) (fun e => hb (by simp [e])) (fun e => hb (by simp [e])) (fun e => hb (by simp [e])) q)) L.fp (Nat.le_refl _) new
    have fr : H s.heap.objs.size = none := I.hok.fresh (Nat.le_refl _)
    have lt : ∀ b ∈ [S, z, ti, to, i1, i2], b < s.heap.objs.size := fun b hb => by
      have e : b = S ∨ b = z ∨ b = ti ∨ b = to ∨ b = i1 ∨ b = i2 := by simpa using hb
      rcases e with rfl | rfl | rfl | rfl | rfl | rfl
      · exact Heap.lt_size hS
      · rcases L.zip with ⟨_, q⟩ | ⟨_, _, _, q, _⟩
        · exact Heap.lt_size q
        · exact Heap.lt_size q
      · exact Heap.lt_size L.inn
      · exact Heap.lt_size ho
      · exact it_lt L.g1
      · exact it_lt L.g2
    have hS2 : ∃ c', (h'.update S (Obj.mapSeq (·.push (.ref s.heap.objs.size)))).get? S = some { cls := .type "list", dict := none, data := .seq ((as ++ [s.heap.objs.size]).map Value.ref).toArray c', slots := #[] } := by
      have e : ((as ++ [s.heap.objs.size]).map Value.ref).toArray = (as.map Value.ref).toArray.push (.ref s.heap.objs.size) := by simp
      rw [e]
      exact ⟨_, Heap.get?_update_self _ hS' rfl⟩
    obtain ⟨c2', hS2⟩ := hS2
    refine lz_loop hh W nS zs (i + 1) _ _ (as ++ [s.heap.objs.size]) c2' ?_ hlt I2 ⟨?_, ?_, ?_, ?_, ?_, sqk_upd L.k1 fr, sqk_upd L.k2 fr, fun b hb => ?_⟩ ?_ (by rw [List.length_append, hl]; rfl) fun H' us s' c' hP I' hf hs' => ?_
    · have := congrArg List.tail ez
      rw [List.tail_drop] at this
      exact this
    · rcases z' with ⟨e, _⟩ | ⟨a, T, b, q, ⟨oT, hoT⟩, t1, t2, t3, t4⟩
      · exact absurd e (Nat.succ_ne_zero _)
      · by_cases e : T = S
        · exact .inr ⟨a, T, b, oth _ _ (Ne.symm nS.1) q, ⟨_, by rw [e]; exact Heap.get?_update_self _ hS' rfl⟩, t1, t2, t3, t4⟩
        · exact .inr ⟨a, T, b, oth _ _ (Ne.symm nS.1) q, ⟨oT, oth _ _ e hoT⟩, t1, t2, t3, t4⟩
    · exact oth _ _ (Ne.symm nS.2.1) (hk _ _ (Ne.symm W.z_ti) W.ti_to W.ti_i1 W.ti_i2 L.inn)
    · obtain ⟨d1, d2, o'⟩ := o'
      exact ⟨d1, d2, oth _ _ (Ne.symm nS.2.2.1) o'⟩
    · exact it_at r1 fun o e => oth _ _ (Ne.symm nS.2.2.2.1) e
    · exact it_at r2 fun o e => oth _ _ (Ne.symm nS.2.2.2.2) e
    · have q := L.fp b hb
      exact ⟨by rw [upd_ne (Nat.ne_of_lt (lt b hb))]; exact q.1, q.2⟩
    · exact hS2
    · exact hR H' (s.heap.objs.size :: us) s' c' ⟨_, us, rfl, fr, hP⟩ I' hf (by rw [List.append_assoc] at hs'; exact hs')
/-- list(z) of a zip that nobody has asked yet -/
theorem call_list_zip {X : Cx} {pins : List (Addr × Obj)} {σ : L2.St} {H : Hp} {s : Shared} {Q : VK} {E : Value → Shared → Prop} {z ti to i1 i2 l1 l2 : Addr} {c1 c2 : Kd} {X1 X2 : List V} (hh : X.A.handled = none) (W : Ap2 z ti to i1 i2 l1 l2) (I : Inv X pins σ H s)
    (hz : IsZip s.heap z ti to .none) (hi : Tp s.heap ti [.ref i1, .ref i2]) (ho : ∃ b1 b2, Tp s.heap to [b1, b2]) (g1 : c1.it s.heap i1 l1 0) (g2 : c2.it s.heap i2 l2 0) (k1 : SqK c1 X.K H l1 X1) (k2 : SqK c2 X.K H l2 X2) (hfp : ∀ b ∈ [z, ti, to, i1, i2], FpOk X pins H b)
    (q : ∀ H' us S, Pairs H (X1.zip X2) H' us → H' S = none → Q (.ref S) (upd H' S (.lst (us.map V.ref)))) : wpAny (model X.prog X.w) X.A (call (.type "list") [.ref z]) (EP X pins σ Q) E s := by
  obtain ⟨b1, b2, ho⟩ := ho
  have lt : ∀ b ∈ [z, ti, to, i1, i2], b < s.heap.objs.size := fun b hb => by
    have e : b = z ∨ b = ti ∨ b = to ∨ b = i1 ∨ b = i2 := by simpa using hb
    rcases e with rfl | rfl | rfl | rfl | rfl
    · exact Heap.lt_size hz
    · exact Heap.lt_size hi
    · exact Heap.lt_size ho
    · exact it_lt g1
    · exact it_lt g2
  have ne : ∀ b ∈ [z, ti, to, i1, i2], s.heap.objs.size ≠ b := fun b hb => Nat.ne_of_gt (lt b hb)
  have nS : s.heap.objs.size ≠ z ∧ s.heap.objs.size ≠ ti ∧ s.heap.objs.size ≠ to ∧ s.heap.objs.size ≠ i1 ∧ s.heap.objs.size ≠ i2 := ⟨ne _ (by simp), ne _ (by simp), ne _ (by simp), ne _ (by simp), ne _ (by simp)⟩
  refine callType_codes (Q₁ := fun obj s₁ => obj = .ref s.heap.objs.size ∧ s₁ = { s with heap := s.heap.push { cls := .type "list", data := .seq #[] } }) F.called_list (F.typeCall_list_1 _) F.entry_list_init (code_list_new _ ⟨rfl, rfl⟩) fun obj s₁ h₁ => ?_
  obtain ⟨rfl, rfl⟩ := h₁
  have hS : (s.heap.push { cls := .type "list", data := .seq #[] }).get? s.heap.objs.size = some { cls := .type "list", data := .seq #[] } := Heap.get?_push_size _ rfl
  refine ⟨⟨_, hS, rfl⟩, F.args_list_init_2 _ _, ?_⟩
  show wpAny _ X.A.in1.in1 (do let old ← Builtin.List.listItems (.ref s.heap.objs.size); Builtin.List.listUpdate (.ref s.heap.objs.size) (fun _ => #[]); letGo old.toList.reverse; Builtin.List.listExtendWith (.ref s.heap.objs.size) (.ref z) .none) _ _ _
  refine wpAny_bind ?_
  unfold Builtin.List.listItems
  refine wpAny_bind (wpAny_seqItems hS rfl (wpAny_pure ?_))
  refine wpAny_bind (wpAny_updateSeq hS rfl ?_)
  have hS2 := Heap.get?_update_self (Obj.mapSeq (fun _ => (#[] : Array Value))) hS rfl
  refine wpAny_bind (wpAny_letGo ?_)
  generalize hg : (s.heap.push { cls := .type "list", data := .seq #[] }).update s.heap.objs.size (Obj.mapSeq (fun _ => (#[] : Array Value))) = g at hS2 ⊢
  have k2' : ∀ b o, b ≠ s.heap.objs.size → s.heap.get? b = some o → g.get? b = some o := fun b o hb e => by
    rw [← hg]
    exact (Heap.get?_update_other _ _ (Ne.symm hb)).trans (Heap.get?_push_of_some _ e)
  have kz : IsZip g z ti to .none := k2' _ _ (Ne.symm nS.1) hz
  have ty : Shared.TypeIs ⟨g, s.gens, s.drawn, s.toks, s.os⟩ (.ref z) "zip" := ⟨_, kz, rfl⟩
  unfold Builtin.List.listExtendWith
  refine wpAny_bind (wpAny_typeOf ty ?_)
  have n1 : Builtin.List.listSameRef (.ref s.heap.objs.size) (.ref z) = false := by simp [Builtin.List.listSameRef, nS.1]
  have n2 : (Value.type "zip" == Value.type "list") = false := by decide
  have n3 : (Value.type "zip" == Value.type "tuple") = false := by decide
  simp only [n1, n2, n3, Bool.or_false, Bool.false_eq_true, if_false]
  refine wpAny_bind (wpAny_pyIter_zip kz ?_)
  refine wpAny_bind (wpAny_holding ?_)
  unfold Builtin.List.listLengthHint
  have z1 : typeLookup (.type "zip") "__len__" = pure none := by rw [typeLookup_type, builtinLookup_eq_fast]; kernel_rfl
  have z2 : typeLookup (.type "zip") "__length_hint__" = pure none := by rw [typeLookup_type, builtinLookup_eq_fast]; kernel_rfl
  refine wpAny_bind (wpAny_specialOf ty z1 ?_)
  refine wpAny_bind (wpAny_specialOf ty z2 ?_)
  refine wpAny_pure ?_
  refine wpAny_bind (wpAny_rule ?_)
  refine wpAny_bind ?_
  show wpAny _ _ (updateSeq s.heap.objs.size (·.push .none) >>= fun _ => updateSeq s.heap.objs.size (·.pop)) _ _ _
  refine wpAny_bind (wpAny_updateSeq hS2 rfl ?_)
  have hS3 := Heap.get?_update_self (Obj.mapSeq (·.push Value.none)) hS2 rfl
  refine wpAny_updateSeq (hz := by seq_fits) hS3 rfl ?_
  have hS4 := Heap.get?_update_self (Obj.mapSeq (·.pop)) hS3 rfl
  have k4 : ∀ b o, b ≠ s.heap.objs.size → s.heap.get? b = some o → ((g.update s.heap.objs.size (Obj.mapSeq (·.push Value.none))).update s.heap.objs.size (Obj.mapSeq (·.pop))).get? b = some o :=
    fun b o hb e => (Heap.get?_update_other _ _ (Ne.symm hb)).trans ((Heap.get?_update_other _ _ (Ne.symm hb)).trans (k2' b o hb e))
  have I2 : Inv X pins σ H { s with heap := (g.update s.heap.objs.size (Obj.mapSeq (·.push Value.none))).update s.heap.objs.size (Obj.mapSeq (·.pop)) } :=
    I.kept (t' := s.toks) fun b o e => k4 b o (Nat.ne_of_lt (Heap.lt_size e)) e
  refine wpAny_pure ⟨plainId_quiet F.plain_extend_loop _, lz_loop (A := X.A.in1) (X1 := X1) (X2 := X2) (c1 := c1) (c2 := c2) (show X.A.in1.in1.handled = none from hh) W nS _ 0 _ H [] _ rfl (Nat.zero_le _) I2 ⟨.inl ⟨rfl, k4 _ _ (Ne.symm nS.1) hz⟩, k4 _ _ (Ne.symm nS.2.1) hi, ⟨_, _, k4 _ _ (Ne.symm nS.2.2.1) ho⟩, it_at g1 fun o e => k4 _ _ (Ne.symm nS.2.2.2.1) e, it_at g2 fun o e => k4 _ _ (Ne.symm nS.2.2.2.2) e, k1, k2, fun b hb => ?_⟩ hS4 rfl fun H' us s' c' hP I' hf hs' => ?_⟩
  · rcases List.mem_cons.mp hb with rfl | hb
    · exact I.fpOk (Nat.le_refl _) (I.hok.fresh (Nat.le_refl _))
    · exact hfp b hb
  · refine ⟨rfl, .ref s.heap.objs.size, upd H' s.heap.objs.size (.lst (us.map V.ref)), ?_, rfl, q H' us _ hP hf.1⟩
    have len : ∀ (zs : List (V × V)) (H H' : Hp) (us : List Addr), Pairs H zs H' us → us.length = zs.length := by
      intro zs
      induction zs with
      | nil => rintro H H' us ⟨_, rfl⟩; rfl
      | cons p zs ih => rintro H H' us ⟨T, vs, rfl, _, h⟩; rw [List.length_cons, List.length_cons, ih _ _ _ h]
    have sz1 := sq_sz I k1
    have vals : ∀ us : List Addr, Vals (us.map V.ref) (us.map Value.ref) := fun us => by
      induction us with
      | nil => exact .nil
      | cons u us ih => exact .cons rfl ih
    exact I'.take (t' := s'.toks) (fun b ob _ e => e) hf ⟨by rw [List.length_map, len _ _ _ _ hP, List.drop_zero, List.length_zip]; omega, us.map Value.ref, c', vals us, hs'⟩
/-- list(zip(a, b)): two tuples -/
def tLz (K : PySem.W.Frag) (ta : TA) : TE := fun σ H Q => ta σ H fun vs H1 => ∃ a b, ∃ xs ys : List V, vs = [.ref a, .ref b] ∧ SqT K H1 a xs ∧ SqT K H1 b ys ∧ ∀ H' us S, Pairs H1 (xs.zip ys) H' us → H' S = none → Q (.ref S) (upd H' S (.lst (us.map V.ref)))
theorem pe_lz {X : Cx} {e d : Expr} {ta : TA} {p p2 pos pos2 : Pos} (hc : X.calm = true) (hg : Gl X "list") (hm : X.mg "list" = none) (hg2 : Gl X "zip") (hm2 : X.mg "zip" = none) (ha : PA X [e, d] ta)
    (hs : starEach [e, d] X.env = (false, eval e X.env) :: starEach [d] X.env := by rfl) (hpl : (backTo pos2 (starEach [d] X.env)).any (·.1) = false := by rfl)
    (hs2 : starEach [Expr.Call (.Name "zip" p2) [e, d] [] pos2] X.env = (false, eval (Expr.Call (.Name "zip" p2) [e, d] [] pos2) X.env) :: starEach [] X.env := by rfl) :
    PE X (.Call (.Name "list" p) [.Call (.Name "zip" p2) [e, d] [] pos2] [] pos) (tLz X.K ta) := by
  refine ⟨fun pins s σ H Q I h => ?_⟩
  refine wpAny_Call_Name_kw (ld_blt I hg hm rfl ?_)
  refine PyProof.Rows.callWith_type1 ?_ hs2 rfl
  rw [hs2]
  show wpAny _ _ (spliced ((false, eval _ X.env) :: backTo pos (starEach [] X.env))) _ _ s
  refine Calls.spliced_cons (Call_ (ld_blt I hg2 hm2 PyProof.Rows.boot_zip (PyProof.Rows.callWith_type1 (thn (ha.run pos2 pins s σ H _ I h) fun us s1 ⟨vs, H1, I1, r1, q1⟩ => ?_) hs hpl)))
  obtain ⟨a, b, xs, ys, ex, q1, q2, q⟩ := q1
  subst ex
  cases r1 with
  | cons ra rr =>
    cases rr with
    | cons rb rr =>
      cases rr
      cases ra
      cases rb
      obtain ⟨u1, rv1, p1, _⟩ := I1.tuple q1
      obtain ⟨u2, rv2, p2, _⟩ := I1.tuple q2
      refine RZ.call_zipT p1 p2 fun h' hz hi ho g1 g2 hsz hk => ?_
      have I2 : Inv X pins σ H1 { s1 with heap := h' } := I1.kept (t' := s1.toks) hk
      refine Calls.spliced_nil ?_
      refine call_list_zip (c1 := .T) (c2 := .T) (I1.ok.hd hc) (ap2 (sq_lt (c := .T) p1) (sq_lt (c := .T) p2)) I2 hz hi ⟨_, _, ho⟩ g1 g2 q1 q2 (fun c hcm => ?_) q
      have le : s1.heap.objs.size ≤ c := by
        have e : c = s1.heap.objs.size + 4 ∨ c = s1.heap.objs.size + 2 ∨ c = s1.heap.objs.size + 3 ∨ c = s1.heap.objs.size ∨ c = s1.heap.objs.size + 1 := by simpa using hcm
        rcases e with e | e | e | e | e <;> rw [e] <;> first | exact Nat.le_refl _ | exact Nat.le_add_right _ _
      exact I1.fpOk le (I1.hok.fresh le)
end ZN

/-! list(zip(a, b)) of two tuples: the reading. -/
namespace PL
open PySem PySem.Spec PyProof.Rows L2
theorem pairs_rep {K : PySem.W.Frag} {S : Sto} : ∀ (xs ys : List Pv) (vs ws : List V) (H H' : Hp) (ts : List Addr), RepVs K H S xs vs → RepVs K H S ys ws → RepS K H S → ZN.Pairs H (vs.zip ws) H' ts → RepVs K H' S (zipP xs ys) (ts.map V.ref) ∧ RepS K H' S ∧ Ext S H S H' := by
  intro xs
  induction xs with
  | nil =>
    intro ys vs ws H H' ts r1 r2 rs h
    have e : vs = [] := r1
    subst e
    obtain ⟨rfl, rfl⟩ := h
    exact ⟨rfl, rs, Ext.refl S _⟩
  | cons x xs ih =>
    intro ys vs ws H H' ts r1 r2 rs h
    obtain ⟨v, vs, rfl, rv, r1⟩ := r1
    cases ys with
    | nil =>
      have e : ws = [] := r2
      subst e
      obtain ⟨rfl, rfl⟩ := h
      exact ⟨rfl, rs, Ext.refl S _⟩
    | cons y ys =>
      obtain ⟨w, ws, rfl, rw, r2⟩ := r2
      obtain ⟨T, us, rfl, nT, h⟩ := h
      obtain ⟨a1, a2, a3⟩ := newT_k (xs := [x, y]) (vs := [v, w]) rs nT ⟨v, [w], rfl, rv, w, [], rfl, rw, rfl⟩
      obtain ⟨b1, b2, b3⟩ := ih ys vs ws _ H' us (RepVs.ext rs a3 _ _ r1) (RepVs.ext rs a3 _ _ r2) a2 h
      exact ⟨⟨.ref T, us.map V.ref, rfl, RepV.ext a2 b3 _ _ a1, b1⟩, b2, a3.trans b3⟩
def oLz : On := fun ps S Q => match ps with
  | [.tup xs, .tup ys] => Q (.lst (zipP xs ys)) S
  | _ => False
/-- .. the new list is to be changed -/
def oLzT : On := fun ps S Q => match ps with
  | [.tup xs, .tup ys] => ∀ a, S a = none → Q (.ref a) (put S a (.lst (zipP xs ys)))
  | _ => False
section
variable {X : Cx} {S0 : Sto} {H0 : Hp} {a b : Expr} {pos p pos2 p2 : Pos}
theorem pv_lz {fs : PFs} (hc : X.calm = true) (hm : X.mg "list" = none) (hm2 : X.mg "zip" = none) (ha : PVs X S0 H0 [a, b] fs) (hg : Gl X "list" := by rfl) (hg2 : Gl X "zip" := by rfl) (hs : starEach [a, b] X.env = (false, eval a X.env) :: starEach [b] X.env := by rfl) (hpl : (backTo pos2 (starEach [b] X.env)).any (·.1) = false := by rfl)
    (hs2 : starEach [Expr.Call (.Name "zip" p2) [a, b] [] pos2] X.env = (false, eval (Expr.Call (.Name "zip" p2) [a, b] [] pos2) X.env) :: starEach [] X.env := by rfl) :
    PV X S0 H0 (.Call (.Name "list" p) [.Call (.Name "zip" p2) [a, b] [] pos2] [] pos) (fN oLz fs) := by
  refine ⟨fun ρ S Q Q' i q => ha.mono _ _ _ _ (fun ps S1 q => ?_) q, PE.imp (ZN.pe_lz hc hg hm hg2 hm2 ha.pa hs hpl hs2) fun σ H Q ⟨ρ, S, re, rs, ex, q⟩ => ?_⟩
  · unfold oLz at q ⊢
    split at q
    · exact i _ _ q
    · exact q.elim
  · refine ⟨ρ, S, re, rs, ex, ha.mono _ _ _ _ (fun ps S1 q vs H1 rv rs1 ex1 => ?_) q⟩
    unfold oLz at q
    split at q
    · obtain ⟨v, u, rfl, r, r'⟩ := rv.two
      obtain ⟨l1, vs1, e1, h1, r1⟩ := r
      obtain ⟨l2, vs2, e2, h2, r2⟩ := r'
      refine ⟨l1, l2, vs1, vs2, by rw [e1, e2], h1, h2, fun H' us L hP nL => ?_⟩
      obtain ⟨b1, b2, b3⟩ := pairs_rep _ _ _ _ _ _ _ r1 r2 rs1 hP
      obtain ⟨a1, a2, a3⟩ := newL_k b2 nL b1
      exact q _ _ a1 a2 (ex1.trans (b3.trans a3))
    · exact q.elim
theorem pv_lzT {fs : PFs} (hc : X.calm = true) (hm : X.mg "list" = none) (hm2 : X.mg "zip" = none) (ha : PVs X S0 H0 [a, b] fs) (hg : Gl X "list" := by rfl) (hg2 : Gl X "zip" := by rfl) (hs : starEach [a, b] X.env = (false, eval a X.env) :: starEach [b] X.env := by rfl) (hpl : (backTo pos2 (starEach [b] X.env)).any (·.1) = false := by rfl)
    (hs2 : starEach [Expr.Call (.Name "zip" p2) [a, b] [] pos2] X.env = (false, eval (Expr.Call (.Name "zip" p2) [a, b] [] pos2) X.env) :: starEach [] X.env := by rfl) :
    PV X S0 H0 (.Call (.Name "list" p) [.Call (.Name "zip" p2) [a, b] [] pos2] [] pos) (fN oLzT fs) := by
  refine ⟨fun ρ S Q Q' i q => ha.mono _ _ _ _ (fun ps S1 q => ?_) q, PE.imp (ZN.pe_lz hc hg hm hg2 hm2 ha.pa hs hpl hs2) fun σ H Q ⟨ρ, S, re, rs, ex, q⟩ => ?_⟩
  · unfold oLzT at q ⊢
    split at q
    · exact fun a ha => i _ _ (q a ha)
    · exact q.elim
  · refine ⟨ρ, S, re, rs, ex, ha.mono _ _ _ _ (fun ps S1 q vs H1 rv rs1 ex1 => ?_) q⟩
    unfold oLzT at q
    split at q
    · obtain ⟨v, u, rfl, r, r'⟩ := rv.two
      obtain ⟨l1, vs1, e1, h1, r1⟩ := r
      obtain ⟨l2, vs2, e2, h2, r2⟩ := r'
      refine ⟨l1, l2, vs1, vs2, by rw [e1, e2], h1, h2, fun H' us L hP nL => ?_⟩
      obtain ⟨b1, b2, b3⟩ := pairs_rep _ _ _ _ _ _ _ r1 r2 rs1 hP
      exact q L (b2.fr nL) _ _ rfl (b2.newL nL b1) (ex1.trans (b3.trans (Ext.newS nL)))
    · exact q.elim
end
end PL

/-! Webs: crossings, roads, pieces, longs, spots: plain. -/
namespace PL
open PySem PySem.Spec PyProof.Rows L2
abbrev Pt := Rat × Rat
structure Rd where
  a : Nat
  b : Nat
  mid : List Pt
  w : Nat
  deriving Inhabited
def rdP (r : Rd) : Pv := .tup [.int r.a, .int r.b, .tup (r.mid.map pt), .int r.w]
abbrev Web := List Pt × List Rd
def webP (W : Web) : Pv := .tup [.tup (W.1.map pt), .tup (W.2.map rdP)]
def cor (cs : List Pt) (i : Nat) : Pt := cs.getD i (0, 0)
/-- the corners of a road -/
def lineR (cs : List Pt) (r : Rd) : List Pt := cor cs r.a :: (r.mid ++ [cor cs r.b])
def pcs {α : Type} (l : List α) : List (α × α) := l.zip l.tail
def rdAt (W : Web) (i : Nat) : Rd := W.2.getD i default
def lineW (W : Web) (i : Nat) : List Pt := lineR W.1 (rdAt W i)
/-! ### what is looked at -/
theorem inQ_no {l m : Int} {x : Pv} (h : inQ l m x = true) : ∃ i, x = .int i ∧ l ≤ i ∧ i ≤ m := by
  cases x with
  | int i =>
    have h : (decide (l ≤ i) && decide (i ≤ m)) = true := h
    simp only [Bool.and_eq_true, decide_eq_true_eq] at h
    exact ⟨i, rfl, h⟩
  | _ => cases h
def inLB (x : Rat) : Bool := decide (0 ≤ x.num) && decide (x.num < 64 * x.den)
theorem inLB_iff (p : Rat × Rat) : (inLB p.1 && inLB p.2) = true ↔ inLand p := by
  unfold inLB inLand
  simp only [Bool.and_eq_true, decide_eq_true_eq]
def inL1 : Pv → Bool
  | .tup [.int a, .int b] => decide (0 ≤ a) && decide (a < 64 * b)
  | _ => false
/-- a point of the land -/
def lptP : Pv → Bool
  | .tup [x, y] => (fracP x && fracP y) && (inL1 x && inL1 y)
  | _ => false
theorem lptP_pt (p : Pt) : lptP (pt p) = (inLB p.1 && inLB p.2) := by
  show ((fracP (fr p.1) && fracP (fr p.2)) && (inLB p.1 && inLB p.2)) = _
  rw [fracP_fr, fracP_fr]; rfl
theorem lptP_is {x : Pv} (h : lptP x = true) : ∃ p, x = pt p ∧ inLand p := by
  unfold lptP at h
  split at h
  · rename_i a b
    simp only [Bool.and_eq_true] at h
    obtain ⟨p, rfl⟩ := frac_is h.1.1
    obtain ⟨q, rfl⟩ := frac_is h.1.2
    exact ⟨(p, q), rfl, (inLB_iff (p, q)).mp (by show (inLB p && inLB q) = true; rw [show inLB p = true from h.2.1, show inLB q = true from h.2.2]; rfl)⟩
  · cases h
def lptsP (a b : Nat) : Pv → Bool
  | .tup xs => (decide (a ≤ xs.length) && decide (xs.length ≤ b)) && xs.all lptP
  | _ => false
theorem lpts_is : ∀ {xs : List Pv}, xs.all lptP = true → ∃ ps : List Pt, xs = ps.map pt ∧ ∀ p ∈ ps, inLand p
  | [], _ => ⟨[], rfl, fun _ h => by cases h⟩
  | x :: xs, h => by
    rw [List.all_cons, Bool.and_eq_true] at h
    obtain ⟨p, rfl, hp⟩ := lptP_is h.1
    obtain ⟨ps, rfl, hps⟩ := lpts_is h.2
    exact ⟨p :: ps, rfl, fun q hq => by
      rcases List.mem_cons.mp hq with rfl | hq
      · exact hp
      · exact hps q hq⟩
theorem lpts_ok {ps : List Pt} (h : ∀ p ∈ ps, inLand p) : (ps.map pt).all lptP = true := by
  rw [List.all_map]
  exact List.all_eq_true.mpr fun p hp => by
    show lptP (pt p) = true
    rw [lptP_pt]
    exact (inLB_iff p).mpr (h p hp)
/-- no two one behind the other are alike -/
def apartB (l : List Pt) : Bool := (pcs l).all fun x => !decide (x.1 = x.2)
/-- a road, as it is looked at -/
def roadP (cs : List Pt) : Pv → Bool
  | .tup [.int i, .int j, .tup ms, w] => (inQ 0 ((cs.length : Int) - 1) (.int i) && inQ 0 ((cs.length : Int) - 1) (.int j)) && (!decide (i = j) && inQ 1 2 w) && lptsP 0 4 (.tup ms) && apartB (cor cs i.toNat :: (ms.map ptOf ++ [cor cs j.toNat]))
  | _ => false
where
  ptOf : Pv → Pt
    | .tup [.tup [.int a, .int b], .tup [.int c, .int d]] => (Rat.divInt a b, Rat.divInt c d)
    | _ => (0, 0)
theorem ptOf_pt (p : Pt) : roadP.ptOf (pt p) = p := by
  show (Rat.divInt p.1.num p.1.den, Rat.divInt p.2.num p.2.den) = p
  rw [Rat.num_divInt_den, Rat.num_divInt_den]
theorem ptOf_map (ps : List Pt) : (ps.map pt).map roadP.ptOf = ps := by
  rw [List.map_map]
  conv => rhs; rw [← List.map_id ps]
  exact List.map_congr_left fun p _ => ptOf_pt p
/-- a web, as it is looked at -/
def webB : Pv → Bool
  | .tup [.tup xs, .tup rs] => (lptsP 1 10 (.tup xs) && decide ((xs.map roadP.ptOf).Nodup)) && (rowP 0 14 4 (.tup rs) && rs.all (roadP (xs.map roadP.ptOf)))
  | _ => false
structure RdOk (cs : List Pt) (r : Rd) : Prop where
  a : r.a < cs.length
  b : r.b < cs.length
  ne : r.a ≠ r.b
  w : 1 ≤ r.w ∧ r.w ≤ 2
  mid : r.mid.length ≤ 4
  land : ∀ p ∈ r.mid, inLand p
  apart : ∀ x ∈ pcs (lineR cs r), x.1 ≠ x.2
structure WebOk (W : Web) : Prop where
  c1 : 1 ≤ W.1.length
  c2 : W.1.length ≤ 10
  land : ∀ p ∈ W.1, inLand p
  nd : W.1.Nodup
  r : W.2.length ≤ 14
  rd : ∀ r ∈ W.2, RdOk W.1 r
/-- all points of no great size -/
structure SzW (n : Nat) (W : Web) : Prop where
  c : ∀ p ∈ W.1, SzP n p
  m : ∀ r ∈ W.2, ∀ p ∈ r.mid, SzP n p
theorem RdOk.q {cs : List Pt} {r : Rd} (h : RdOk cs r) : roadP cs (rdP r) = true := by
  show ((inQ 0 ((cs.length : Int) - 1) (.int r.a) && inQ 0 ((cs.length : Int) - 1) (.int r.b)) && (!decide ((r.a : Int) = r.b) && inQ 1 2 (.int r.w)) && lptsP 0 4 (.tup (r.mid.map pt)) && apartB (cor cs (r.a : Int).toNat :: ((r.mid.map pt).map roadP.ptOf ++ [cor cs (r.b : Int).toNat]))) = true
  have ha := h.a
  have hb := h.b
  have hn := h.ne
  have hw := h.w
  have hm := h.mid
  rw [ptOf_map, Int.toNat_natCast, Int.toNat_natCast]
  simp only [Bool.and_eq_true, inQ, decide_eq_true_eq, lptsP, List.length_map, Bool.not_eq_true', decide_eq_false_iff_not]
  refine ⟨⟨⟨⟨⟨by omega, by omega⟩, by omega, by omega⟩, by omega, by omega, by omega⟩, ⟨by omega, hm⟩, lpts_ok h.land⟩, ?_⟩
  refine List.all_eq_true.mpr fun x hx => ?_
  rw [decide_eq_false (h.apart x hx)]; rfl
theorem WebOk.q {W : Web} (h : WebOk W) : webB (webP W) = true := by
  show ((lptsP 1 10 (.tup (W.1.map pt)) && decide (((W.1.map pt).map roadP.ptOf).Nodup)) && (rowP 0 14 4 (.tup (W.2.map rdP)) && (W.2.map rdP).all (roadP ((W.1.map pt).map roadP.ptOf)))) = true
  rw [ptOf_map]
  simp only [Bool.and_eq_true, lptsP, rowP, decide_eq_true_eq, List.length_map]
  refine ⟨⟨⟨⟨h.c1, h.c2⟩, lpts_ok h.land⟩, h.nd⟩, ⟨⟨by omega, h.r⟩, ?_⟩, ?_⟩
  · rw [List.all_map]
    exact List.all_eq_true.mpr fun r _ => rfl
  · rw [List.all_map]
    exact List.all_eq_true.mpr fun r hr => (h.rd r hr).q
theorem rdAt_mem {W : Web} {i : Nat} (h : i < W.2.length) : rdAt W i ∈ W.2 := by
  unfold rdAt
  rw [List.getD_eq_getElem?_getD, List.getElem?_eq_getElem h]
  exact List.getElem_mem h
theorem rdAt_get {W : Web} {i : Nat} (h : i < W.2.length) : (W.2.map rdP)[i]? = some (rdP (rdAt W i)) := by
  unfold rdAt
  rw [List.getElem?_map, List.getD_eq_getElem?_getD, List.getElem?_eq_getElem h]; rfl
theorem cor_get {cs : List Pt} {i : Nat} (h : i < cs.length) : (cs.map pt)[i]? = some (pt (cor cs i)) := by
  unfold cor
  rw [List.getElem?_map, List.getD_eq_getElem?_getD, List.getElem?_eq_getElem h]; rfl
theorem cor_mem {cs : List Pt} {i : Nat} (h : i < cs.length) : cor cs i ∈ cs := by
  unfold cor
  rw [List.getD_eq_getElem?_getD, List.getElem?_eq_getElem h]
  exact List.getElem_mem h
theorem pcs_mem {α : Type} {l : List α} {x : α × α} (h : x ∈ pcs l) : x.1 ∈ l ∧ x.2 ∈ l := by
  have := List.of_mem_zip (a := x.1) (b := x.2) (l₁ := l) (l₂ := l.tail) h
  exact ⟨this.1, List.mem_of_mem_tail this.2⟩
theorem line_sz {n : Nat} {W : Web} {i : Nat} (h : WebOk W) (hs : SzW n W) (hi : i < W.2.length) : ∀ p ∈ lineW W i, SzP n p := by
  intro p hp
  have hr := h.rd _ (rdAt_mem hi)
  rcases List.mem_cons.mp hp with rfl | hp
  · exact hs.c _ (cor_mem hr.a)
  rcases List.mem_append.mp hp with hp | hp
  · exact hs.m _ (rdAt_mem hi) p hp
  · rw [List.mem_singleton.mp hp]
    exact hs.c _ (cor_mem hr.b)
theorem line_len {W : Web} {i : Nat} (h : WebOk W) (hi : i < W.2.length) : (lineW W i).length ≤ 6 := by
  have hr := (h.rd _ (rdAt_mem hi)).mid
  unfold lineW lineR
  simp only [List.length_cons, List.length_append, List.length_nil]
  omega
theorem pcs_len {α : Type} (l : List α) : (pcs l).length ≤ l.length := by
  unfold pcs
  rw [List.length_zip]
  omega
theorem pcs_map {l : List Pt} : zipP (l.map pt) (l.map pt).tail = (pcs l).map fun x => .tup [pt x.1, pt x.2] := by
  rw [zipP_zip, ← List.map_tail, List.zip_map, List.map_map]
  rfl
end PL

/-! Sets of drawn things: plain. -/
namespace PL
open PySem PySem.Spec PyProof.Rows L2 PLS
theorem scW_map {α : Type} {gd : Sto → Prop} {t : Tg} {te : PF} {ρ : Env'} {C : Pv → Prop} {Q : List Pv → Sto → Prop} {S : Sto} (g f : α → Pv) (hg : gd S) : ∀ (xs : List α) (acc : List Pv), (∀ x ∈ xs, ∃ ρ2, bindT S t (g x) ρ = some ρ2 ∧ ∀ k : QV, k (f x) S → te ρ2 S k) → (∀ x ∈ xs, C (f x)) → Q (acc ++ xs.map f) S → scW gd t fYes te ρ C Q (xs.map g) acc S
  | [], acc, _, _, q => ⟨hg, by simpa using q⟩
  | x :: xs, acc, h, hC, q => by
    refine ⟨hg, ?_⟩
    obtain ⟨ρ2, e, h1⟩ := h x List.mem_cons_self
    rw [e]
    refine h1 _ ⟨hC x List.mem_cons_self, scW_map g f hg xs _ (fun y hy => h y (List.mem_cons_of_mem _ hy)) (fun y hy => hC y (List.mem_cons_of_mem _ hy)) ?_⟩
    rw [List.append_assoc]
    exact q
theorem sub_len {α : Type} [DecidableEq α] : ∀ {js cs : List α}, js.Nodup → (∀ x ∈ js, x ∈ cs) → js.length ≤ cs.length
  | [], _, _, _ => Nat.zero_le _
  | j :: js, cs, nd, h => by
    obtain ⟨n1, n2⟩ := List.nodup_cons.mp nd
    have hj := h j List.mem_cons_self
    have := sub_len (js := js) (cs := cs.erase j) n2 (fun x hx => (List.mem_erase_of_ne (show x ≠ j from fun e => by rw [e] at hx; exact n1 hx)).mpr (h x (List.mem_cons_of_mem _ hx)))
    rw [List.length_erase_of_mem hj] at this
    have hp := List.length_pos_of_mem hj
    rw [List.length_cons]
    omega
theorem nodup_of_len {α : Type} [DecidableEq α] : ∀ {cs js : List α}, js.Nodup → (∀ x ∈ js, x ∈ cs) → js.length = cs.length → cs.Nodup
  | [], _, _, _, _ => List.nodup_nil
  | c :: cs, js, nd, h, e => by
    rw [List.length_cons] at e
    by_cases hc : c ∈ js
    · have h2 : ∀ x ∈ js.erase c, x ∈ cs := fun x hx => by
        obtain ⟨x1, x2⟩ := (nd.mem_erase_iff).mp hx
        rcases List.mem_cons.mp (h x x2) with z | z
        · exact absurd z x1
        · exact z
      have hl : (js.erase c).length = cs.length := by rw [List.length_erase_of_mem hc]; omega
      refine List.nodup_cons.mpr ⟨fun hm => ?_, nodup_of_len (nd.erase c) h2 hl⟩
      have := sub_len nd fun x hx => (show x ∈ cs from by
        rcases List.mem_cons.mp (h x hx) with z | z
        · rw [z]; exact hm
        · exact z)
      omega
    · have := sub_len nd fun x hx => (show x ∈ cs from by
        rcases List.mem_cons.mp (h x hx) with z | z
        · rw [z] at hx; exact absurd hx hc
        · exact z)
      omega
theorem set_lt {α : Type} [DecidableEq α] {js cs : List α} (nd : js.Nodup) (h : ∀ x, x ∈ js ↔ x ∈ cs) : decide (js.length < cs.length) = !decide cs.Nodup := by
  have l1 := sub_len nd fun x hx => (h x).mp hx
  by_cases hc : cs.Nodup
  · have l2 := sub_len hc fun x hx => (h x).mpr hx
    rw [decide_eq_true hc, decide_eq_false (show ¬ js.length < cs.length by omega)]; rfl
  · have : js.length ≠ cs.length := fun e => hc (nodup_of_len nd (fun x hx => (h x).mp hx) e)
    rw [decide_eq_false hc, decide_eq_true (show js.length < cs.length by omega)]; rfl
theorem fr_inj {p q : Rat} (h : fr p = fr q) : p = q := by
  simp only [fr, Pv.tup.injEq, List.cons.injEq, Pv.int.injEq, and_true] at h
  exact Rat.ext h.1 (by omega)
theorem pt_inj (p q : Pt) (h : pt p = pt q) : p = q := by
  have h : fr p.1 = fr q.1 ∧ fr p.2 = fr q.2 := by simpa [pt] using h
  exact Prod.ext (fr_inj h.1) (fr_inj h.2)
theorem kOk_pt (p : Pt) : kOk true (pt p) := ⟨rfl, rfl, (show (2 : Nat) ≤ 8 by decide)⟩
end PL

/-! Numbers of the land, by twenty-fourths: sizes that don't grow. -/
namespace PL
open PySem PySem.Spec PyProof.Rows L2
/-- so many twenty-fourths -/
def Gd (m : Nat) (q : Rat) : Prop := ∃ k : Int, q = Rat.divInt k 24 ∧ k.natAbs ≤ m
theorem Gd.up {m n : Nat} {q : Rat} (h : Gd m q) (l : m ≤ n) : Gd n q := by
  obtain ⟨k, e, hk⟩ := h
  exact ⟨k, e, Nat.le_trans hk l⟩
theorem div24 (k : Int) : Rat.divInt k 24 = (k : Rat) / 24 := by rw [Rat.divInt_eq_div]; rfl
theorem Gd.add {m n : Nat} {p q : Rat} (h : Gd m p) (h' : Gd n q) : Gd (m + n) (p + q) := by
  obtain ⟨k, rfl, hk⟩ := h
  obtain ⟨j, rfl, hj⟩ := h'
  refine ⟨k + j, ?_, by omega⟩
  rw [div24, div24, div24, Rat.intCast_add]
  grind
theorem Gd.sub {m n : Nat} {p q : Rat} (h : Gd m p) (h' : Gd n q) : Gd (m + n) (p - q) := by
  obtain ⟨k, rfl, hk⟩ := h
  obtain ⟨j, rfl, hj⟩ := h'
  refine ⟨k - j, ?_, by omega⟩
  rw [div24, div24, div24, Rat.intCast_sub]
  grind
theorem Gd.neg {m : Nat} {p : Rat} (h : Gd m p) : Gd m (-p) := by
  obtain ⟨k, rfl, hk⟩ := h
  refine ⟨-k, ?_, by omega⟩
  rw [div24, div24, Rat.intCast_neg]
  grind
theorem Gd.abs {m : Nat} {p : Rat} (h : Gd m p) : Gd m (absR p) := by
  unfold absR
  split
  · exact h.neg
  · exact h
theorem Gd.zero : Gd 0 0 := ⟨0, by decide +kernel, Nat.le_refl _⟩
theorem Gd.sz {m n : Nat} {q : Rat} (h : Gd m q) (l : m < 2 ^ n) (l' : 5 ≤ n) : Sz n q := by
  obtain ⟨k, rfl, hk⟩ := h
  refine divInt_sz (by decide) ?_ ?_
  · unfold szI; omega
  · unfold szI
    exact Nat.lt_of_lt_of_le (by decide : (24 : Int).natAbs < 2 ^ 5) (Nat.pow_le_pow_right (by decide) l')
theorem Gd.of {t b : Int} {c : Nat} (hb : b ≠ 0) (e : b * c = 24) {m : Nat} (h : t.natAbs * c ≤ m) : Gd m (Rat.divInt t b) := by
  refine ⟨t * c, ?_, by rw [Int.natAbs_mul]; exact h⟩
  have hc : (c : Int) ≠ 0 := fun z => by rw [z] at e; simp at e
  rw [← e, Rat.divInt_mul_right hc]
def GdP (m : Nat) (p : Pt) : Prop := Gd m p.1 ∧ Gd m p.2
/-- all points of the web are such -/
structure GdW (W : Web) : Prop where
  c : ∀ p ∈ W.1, GdP 1536 p
  m : ∀ r ∈ W.2, ∀ p ∈ r.mid, GdP 1536 p
theorem line_gd {W : Web} {i : Nat} (h : WebOk W) (hs : GdW W) (hi : i < W.2.length) : ∀ p ∈ lineW W i, GdP 1536 p := by
  intro p hp
  have hr := h.rd _ (rdAt_mem hi)
  rcases List.mem_cons.mp hp with rfl | hp
  · exact hs.c _ (cor_mem hr.a)
  rcases List.mem_append.mp hp with hp | hp
  · exact hs.m _ (rdAt_mem hi) p hp
  · rw [List.mem_singleton.mp hp]
    exact hs.c _ (cor_mem hr.b)
theorem GdP.sz {p : Pt} (h : GdP 1536 p) : SzP 11 p := ⟨h.1.sz (by decide) (by decide), h.2.sz (by decide) (by decide)⟩
theorem GdW.sz {W : Web} (h : GdW W) : SzW 11 W := ⟨fun p hp => (h.c p hp).sz, fun r hr p hp => (h.m r hr p hp).sz⟩
end PL

/-! Drawn webs: plain. -/
namespace PL
open PySem PySem.Spec PyProof.Rows L2
theorem isDs_mapA {α : Type} {f : α → Pv} (h : ∀ x, isD (f x) = true) : ∀ xs : List α, isDs (xs.map f) = true
  | [] => rfl
  | x :: xs => by show (isD (f x) && isDs (xs.map f)) = true; rw [h x, isDs_mapA h xs]; rfl
theorem lay_map {α : Type} {f : α → Pv} (h : ∀ x, PyData.canLay0 (toD (f x)) = true) : ∀ xs : List α, PyData.canLayAll0 (toDs (xs.map f)) = true
  | [] => rfl
  | x :: xs => by show (PyData.canLay0 (toD (f x)) && PyData.canLayAll0 (toDs (xs.map f))) = true; rw [h x, lay_map h xs]; rfl
theorem depth_map {α : Type} {f : α → Pv} {d : Nat} (h : ∀ x, (toD (f x)).depth ≤ d) : ∀ xs : List α, PyData.depthAll (toDs (xs.map f)) ≤ d
  | [] => Nat.zero_le _
  | x :: xs => by
    show max (toD (f x)).depth (PyData.depthAll (toDs (xs.map f))) ≤ d
    have := h x
    have := depth_map h xs
    omega
theorem okD_lst {α : Type} {f : α → Pv} {d : Nat} (h1 : ∀ x, isD (f x) = true) (h2 : ∀ x, PyData.canLay0 (toD (f x)) = true) (h3 : ∀ x, (toD (f x)).depth ≤ d) (hd : d ≤ 40) (xs : List α) : okD (.lst (xs.map f)) = true := by
  unfold okD SeqAt.shaped
  have e1 : isD (.lst (xs.map f)) = true := isDs_mapA h1 xs
  have e2 : PyData.canLay0 (toD (.lst (xs.map f))) = true := lay_map h2 xs
  have e3 : (toD (.lst (xs.map f))).depth ≤ d + 1 := by
    show PyData.depthAll (toDs (xs.map f)) + 1 ≤ d + 1
    have := depth_map h3 xs
    omega
  rw [e1, e2]
  simp only [Bool.true_and, Bool.and_true]
  exact decide_eq_true (by omega)
theorem okD_pts (cs : List Pt) : okD (.lst (cs.map pt)) = true := okD_lst (f := pt) (d := 2) (fun _ => rfl) (fun _ => rfl) (fun p => (show (2 : Nat) ≤ 2 from Nat.le_refl _)) (by decide) cs
theorem memD_pts (p : Pt) : ∀ cs : List Pt, memD (pt p) (cs.map pt) = decide (p ∈ cs)
  | [] => rfl
  | c :: cs => by
    show (PyData.eqv (toD (pt c)) (toD (pt p)) || memD (pt p) (cs.map pt)) = _
    rw [eqv_pt, memD_pts p cs]
    by_cases h : c = p
    · subst h; simp
    · by_cases h2 : p ∈ cs
      · simp [h2]
      · simp [h, h2, Ne.symm h]
theorem lenP_at {S : Sto} {a : Addr} {xs : List Pv} (h : S a = some (.lst xs)) : lenP S (.ref a) = some xs.length := by simp [lenP, rdL, h]
theorem at_lastW {xs : List Pv} {x : Pv} : atI (xs ++ [x]) (-1) = some x := by
  unfold atI ixN
  rw [List.length_append, List.length_singleton]
  rw [if_neg (by decide), if_pos (by omega)]
  have e : ((-1 : Int) + ((xs.length + 1 : Nat) : Int)).toNat = xs.length := by omega
  simp only [e]
  simp
def shareR (p q : Pt) (s : Rat) : Pt := (p.1 + s * (q.1 - p.1), p.2 + s * (q.2 - p.2))
/-- a drawn web -/
structure WebD (W : Web) : Prop where
  ok : WebOk W
  sz : GdW W
  c6 : W.1.length ≤ 6
  r6 : W.2.length ≤ 6
  m2 : ∀ r ∈ W.2, r.mid.length ≤ 2
theorem smPs_map {α : Type} {f : α → Pv} : ∀ {xs : List α}, (∀ x ∈ xs, smP (f x) = true) → smPs (xs.map f) = true
  | [], _ => rfl
  | x :: xs, h => by
    show (smP (f x) && smPs (xs.map f)) = true
    rw [h x List.mem_cons_self, smPs_map fun y hy => h y (List.mem_cons_of_mem _ hy)]; rfl
theorem smP_pts {cs : List Pt} (h : cs.length ≤ 1000) : smP (.tup (cs.map pt)) = true := by
  show (decide ((cs.map pt).length ≤ 1000) && smPs (cs.map pt)) = true
  rw [decide_eq_true (by rw [List.length_map]; exact h), smPs_map fun _ _ => rfl]; rfl
theorem WebOk.sm {W : Web} (h : WebOk W) : smP (webP W) = true := by
  have h1 : smP (.tup (W.1.map pt)) = true := smP_pts (by have := h.c2; omega)
  have h2 : smP (.tup (W.2.map rdP)) = true := by
    show (decide ((W.2.map rdP).length ≤ 1000) && smPs (W.2.map rdP)) = true
    rw [decide_eq_true (by rw [List.length_map]; have := h.r; omega), smPs_map fun r hr => ?_]
    · rfl
    · show (true && (true && (true && (smP (.tup (r.mid.map pt)) && (true && true))))) = true
      rw [smP_pts (by have := (h.rd r hr).mid; omega)]; rfl
  show (true && (smP (.tup (W.1.map pt)) && (smP (.tup (W.2.map rdP)) && true))) = true
  rw [h1, h2]; rfl
theorem rd_D (r : Rd) : isD (rdP r) = true := by
  show (true && (true && (isDs (r.mid.map pt) && (true && true)))) = true
  rw [isDs_mapA fun _ => rfl]; rfl
theorem rd_lay (r : Rd) : PyData.canLay0 (toD (rdP r)) = true := by
  show (true && (true && (PyData.canLayAll0 (toDs (r.mid.map pt)) && (true && true)))) = true
  rw [lay_map fun _ => rfl]; rfl
theorem rd_depth (r : Rd) : (toD (rdP r)).depth ≤ 4 := by
  show max 0 (max 0 (max (PyData.depthAll (toDs (r.mid.map pt)) + 1) (max 0 0))) + 1 ≤ 4
  have := depth_map (f := pt) (d := 2) (fun p => (show (2 : Nat) ≤ 2 from Nat.le_refl _)) r.mid
  omega
theorem okD_tupA {α : Type} {f : α → Pv} {d : Nat} (h1 : ∀ x, isD (f x) = true) (h2 : ∀ x, PyData.canLay0 (toD (f x)) = true) (h3 : ∀ x, (toD (f x)).depth ≤ d) (hd : d ≤ 40) (xs : List α) : okD (.tup (xs.map f)) = true := by
  unfold okD SeqAt.shaped
  have e1 : isD (.tup (xs.map f)) = true := isDs_mapA h1 xs
  have e2 : PyData.canLay0 (toD (.tup (xs.map f))) = true := lay_map h2 xs
  have e3 : (toD (.tup (xs.map f))).depth ≤ d + 1 := by
    show PyData.depthAll (toDs (xs.map f)) + 1 ≤ d + 1
    have := depth_map h3 xs
    omega
  rw [e1, e2]
  simp only [Bool.true_and, Bool.and_true]
  exact decide_eq_true (by omega)
theorem okD_rds {W : Web} (h : WebOk W) : okD (.tup (W.2.map rdP)) = true := okD_tupA rd_D rd_lay rd_depth (by decide) W.2
theorem rng_memB {n : Int} {x : Pv} (h : x ∈ rngP 0 n) : ∃ k : Nat, x = .int k ∧ (k : Int) < n := by
  unfold rngP at h
  obtain ⟨k, hk, e⟩ := List.mem_map.mp h
  rw [List.mem_range] at hk
  exact ⟨k, by rw [← e]; simp, by omega⟩
theorem WebD.sh {W : Web} (h : WebD W) : Sh 2000 6 (webP W) := by
  have hp : ∀ (l : List Pt) (m : Nat), l.length ≤ m → (∀ p ∈ l, GdP 1536 p) → Sh (75 * m + 3) 3 (.tup (l.map pt)) := fun l m hl hs => by
    have a := Shs.map (f := pt) (n := 4 * 11 + 29) (d := 2) (xs := l) fun p hp => Sh.pt (d := 0) (hs p hp).sz (by decide)
    refine (Sh.tup a).up ?_ (Nat.le_refl _)
    have := Nat.mul_le_mul_left 75 hl
    omega
  have hr : ∀ r ∈ W.2, Sh 220 4 (rdP r) := fun r hr => by
    have o := h.ok.rd r hr
    have c := h.c6
    have i : ∀ n : Nat, n ≤ 9 → Sh (4 + 2) 3 (.int (n : Int)) := fun n hn => Sh.int (by unfold szI; omega) (by decide)
    have := o.a
    have := o.b
    have := o.w
    exact (Sh.tup (Shs.cons (i r.a (by omega)) (Shs.cons (i r.b (by omega)) (Shs.cons (hp r.mid 2 (h.m2 r hr) (h.sz.m r hr)) (Shs.cons (i r.w (by omega)) Shs.nil))))).up (by decide) (Nat.le_refl _)
  have hrs : Sh (222 * 6 + 3) 5 (.tup (W.2.map rdP)) := by
    refine (Sh.tup (Shs.map hr)).up ?_ (Nat.le_refl _)
    have := Nat.mul_le_mul_left 222 h.r6
    omega
  exact (Sh.tup (Shs.cons ((hp W.1 6 h.c6 h.sz.c).up (Nat.le_refl _) (by decide : 3 ≤ 5)) (Shs.cons hrs Shs.nil))).up (by decide) (Nat.le_refl _)
/-! ### lines that are drawn corner by corner -/
theorem pcs_snoc {α : Type} : ∀ (l : List α) (x y : α), pcs (l ++ [x, y]) = pcs (l ++ [x]) ++ [(x, y)]
  | [], _, _ => rfl
  | [a], _, _ => rfl
  | a :: b :: l, x, y => by
    have := pcs_snoc (b :: l) x y
    show (a, b) :: pcs (b :: (l ++ [x, y])) = (a, b) :: pcs (b :: (l ++ [x])) ++ [(x, y)]
    rw [show b :: (l ++ [x, y]) = (b :: l) ++ [x, y] from rfl, this]
    rfl
/-- corners so far: each another than the one before -/
def LnOk (l : List Pt) : Prop := ∀ x ∈ pcs l, x.1 ≠ x.2
theorem LnOk.snoc {l : List Pt} {x y : Pt} (h : LnOk (l ++ [x])) (hn : x ≠ y) : LnOk (l ++ [x, y]) := by
  intro z hz
  rw [pcs_snoc] at hz
  rcases List.mem_append.mp hz with hz | hz
  · exact h z hz
  · rw [List.mem_singleton.mp hz]; exact hn
end PL

/-! Pieces, longs, spots and their points: plain. -/
namespace PL
open PySem PySem.Spec PyProof.Rows L2
def WebI (a : Web × Nat) : Prop := WebOk a.1 ∧ a.2 < a.1.2.length
def webA (a : Web × Nat) : List Pv := [webP a.1, .int a.2]
def pcP (x : Pt × Pt) : Pv := .tup [pt x.1, pt x.2]
def pcsW (W : Web) (i : Nat) : List (Pt × Pt) := pcs (lineW W i)
def sumR (l : List Rat) : Rat := l.foldl (· + ·) 0
theorem sumR_snoc (l : List Rat) (x : Rat) : sumR (l ++ [x]) = sumR l + x := by
  unfold sumR
  rw [List.foldl_append]; rfl
theorem Gd.foldl {n : Nat} : ∀ (l : List Rat) (m : Nat) (a : Rat), Gd m a → (∀ x ∈ l, Gd n x) → Gd (m + n * l.length) (l.foldl (· + ·) a)
  | [], m, a, ha, _ => ha.up (by simp)
  | x :: l, m, a, ha, h => by
    have := Gd.foldl l (m + n) (a + x) (ha.add (h x List.mem_cons_self)) fun y hy => h y (List.mem_cons_of_mem _ hy)
    refine this.up ?_
    rw [List.length_cons, Nat.mul_add]
    omega
theorem Gd.sum {n : Nat} (l : List Rat) (h : ∀ x ∈ l, Gd n x) : Gd (n * l.length) (sumR l) := (Gd.foldl l 0 0 Gd.zero h).up (by omega)
def stP (x : Pt × Pt) : Rat := stR x.1 x.2
theorem stP_gd {x : Pt × Pt} (h : GdP 1536 x.1) (h' : GdP 1536 x.2) : Gd 6144 (stP x) := ((h.1.sub h'.1).abs.add (h.2.sub h'.2).abs).up (by decide)
def longW (W : Web) (i : Nat) : Rat := sumR ((pcsW W i).map stP)
/-- all sums of pieces are of no great size -/
theorem pre_gd {W : Web} {i : Nat} (h : WebI (W, i)) (hs : GdW W) {pre post : List (Pt × Pt)} (e : pre ++ post = pcsW W i) : Gd 36864 (sumR (pre.map stP)) ∧ ∀ x ∈ pcsW W i, Gd 6144 (stP x) ∧ GdP 1536 x.1 ∧ GdP 1536 x.2 := by
  have hp : ∀ x ∈ pcsW W i, Gd 6144 (stP x) ∧ GdP 1536 x.1 ∧ GdP 1536 x.2 := fun x hx => by
    have := pcs_mem hx
    have a := line_gd h.1 hs h.2 x.1 this.1
    have b := line_gd h.1 hs h.2 x.2 this.2
    exact ⟨stP_gd a b, a, b⟩
  refine ⟨(Gd.sum (n := 6144) (pre.map stP) fun y hy => ?_).up ?_, hp⟩
  · obtain ⟨x, hx, rfl⟩ := List.mem_map.mp hy
    exact (hp x (by rw [← e]; exact List.mem_append_left _ hx)).1
  · have l1 := congrArg List.length e
    have l2 := pcs_len (lineW W i)
    have l3 : (lineW W i).length ≤ 6 := line_len h.1 h.2
    rw [List.length_append] at l1
    have l4 : pre.length ≤ 6 := by
      have : (pcsW W i).length ≤ (lineW W i).length := l2
      omega
    rw [List.length_map]
    have := Nat.mul_le_mul_left 6144 l4
    omega
theorem pre_sz {W : Web} {i : Nat} (h : WebI (W, i)) (hs : GdW W) {pre post : List (Pt × Pt)} (e : pre ++ post = pcsW W i) : Sz 16 (sumR (pre.map stP)) ∧ ∀ x ∈ pcsW W i, Sz 13 (stP x) ∧ SzP 11 x.1 ∧ SzP 11 x.2 := by
  obtain ⟨a, b⟩ := pre_gd h hs e
  exact ⟨a.sz (by decide) (by decide), fun x hx => ⟨(b x hx).1.sz (by decide) (by decide), (b x hx).2.1.sz, (b x hx).2.2.sz⟩⟩
def WebS (a : Web × Nat) : Prop := WebI a ∧ GdW a.1
def spotP (s : Nat × Rat) : Pv := .tup [.int s.1, fr s.2]
/-- a spot of a web -/
structure SpotOk (W : Web) (s : Nat × Rat) : Prop where
  i : s.1 < W.2.length
  nn : 0 ≤ s.2
  le : s.2 ≤ longW W s.1
/-- the point that is so far along -/
def atR (far : Rat) : List (Pt × Pt) → Rat → Pt
  | [], _ => (0, 0)
  | x :: r, ahead => if ahead + stP x < far then atR far r (ahead + stP x) else shareR x.1 x.2 ((far - ahead) / stP x)
theorem stP_pos {x : Pt × Pt} (h : x.1 ≠ x.2) : 0 < stP x := by
  unfold stP stR stepsR
  dsimp only
  have a := absR_nn (x.1.1 - x.2.1)
  have b := absR_nn (x.1.2 - x.2.2)
  by_cases e1 : x.1.1 = x.2.1
  · have e2 : x.1.2 ≠ x.2.2 := fun e => h (Prod.ext e1 e)
    have : absR (x.1.2 - x.2.2) ≠ 0 := fun e => e2 ((absR_zero _ _).mp e)
    grind
  · have : absR (x.1.1 - x.2.1) ≠ 0 := fun e => e1 ((absR_zero _ _).mp e)
    grind
def pointW (W : Web) (s : Nat × Rat) : Pt := atR s.2 (pcsW W s.1) 0
theorem at_sz {n : Nat} {W : Web} {i : Nat} {far : Rat} (h : WebI (W, i)) (hs : GdW W) (hz : Sz n far) : ∀ (post pre : List (Pt × Pt)), pre ++ post = pcsW W i → SzP (n + 66) (atR far post (sumR (pre.map stP)))
  | [], _, _ => ⟨Sz.zero.up (by omega), Sz.zero.up (by omega)⟩
  | x :: r, pre, e => by
    obtain ⟨z1, z2⟩ := pre_sz h hs e
    have hx : x ∈ pcsW W i := by rw [← e]; simp
    obtain ⟨z3, z4, z5⟩ := z2 x hx
    have hp := stP_pos ((h.1.rd _ (rdAt_mem h.2)).apart x hx)
    unfold atR
    split
    · have := at_sz h hs hz r (pre ++ [x]) (by rw [List.append_assoc]; exact e)
      rw [List.map_append, List.map_singleton, sumR_snoc] at this
      exact this
    · have zd := (hz.sub z1).div z3 (show stP x ≠ 0 by grind)
      exact ⟨(z4.1.add (zd.mul (z5.1.sub z4.1))).up (by omega), (z4.2.add (zd.mul (z5.2.sub z4.2))).up (by omega)⟩
theorem pointW_szN {n : Nat} {W : Web} {s : Nat × Rat} (h : WebI (W, s.1)) (hs : GdW W) (hz : Sz n s.2) : SzP (n + 66) (pointW W s) := at_sz h hs hz (pcsW W s.1) [] rfl
theorem pointW_sz {W : Web} {s : Nat × Rat} (h : WebI (W, s.1)) (hs : GdW W) (hz : Sz 24 s.2) : SzP 90 (pointW W s) := pointW_szN h hs hz
structure WebG (W : Web) : Prop where
  ok : WebOk W
  sz : GdW W
  sm : smP (webP W) = true
theorem div_le_one {t d : Int} (h : 0 < d) (h2 : t ≤ d) : Rat.divInt t d ≤ 1 := by
  have hd : (0 : Rat) < ((d : Int) : Rat) := by exact_mod_cast h
  have ht : ((t : Int) : Rat) ≤ ((d : Int) : Rat) := by exact_mod_cast h2
  rw [Rat.divInt_eq_div]
  have e : (t : Rat) / d * d = t := Rat.div_mul_cancel (by grind)
  have : ((t : Rat) / d) * d ≤ 1 * d := by rw [e, Rat.one_mul]; exact ht
  exact Rat.le_of_mul_le_mul_right this hd
theorem sum_nn : ∀ (l : List Rat) (a : Rat), 0 ≤ a → (∀ x ∈ l, 0 ≤ x) → a ≤ l.foldl (· + ·) a
  | [], a, h, _ => Rat.le_refl
  | x :: l, a, h, hx => by
    have h1 := hx x List.mem_cons_self
    have := sum_nn l (a + x) (by grind) fun y hy => hx y (List.mem_cons_of_mem _ hy)
    show a ≤ l.foldl (· + ·) (a + x)
    grind
theorem stP_nn (x : Pt × Pt) : 0 ≤ stP x := by
  unfold stP stR stepsR
  have a := absR_nn (x.1.1 - x.2.1)
  have b := absR_nn (x.1.2 - x.2.2)
  dsimp only
  grind
theorem long_nn (W : Web) (i : Nat) : 0 ≤ longW W i := sum_nn _ 0 Rat.le_refl fun y hy => by
  obtain ⟨x, _, rfl⟩ := List.mem_map.mp hy
  exact stP_nn x
theorem first_le (x : Pt × Pt) (l : List (Pt × Pt)) : stP x ≤ sumR ((x :: l).map stP) := by
  show stP x ≤ (l.map stP).foldl (· + ·) (0 + stP x)
  have := sum_nn (l.map stP) (0 + stP x) (by have := stP_nn x; grind) fun y hy => by
    obtain ⟨z, _, rfl⟩ := List.mem_map.mp hy
    exact stP_nn z
  grind
theorem line_two {W : Web} {i : Nat} : ∃ p q r, lineW W i = p :: q :: r := by
  unfold lineW lineR
  cases (rdAt W i).mid with
  | nil => exact ⟨_, _, _, rfl⟩
  | cons m ms => exact ⟨_, _, _, rfl⟩
def atL : List (Pt × Pt) → Rat → Pt
  | [], _ => (0, 0)
  | x :: r, far => if stP x < far then atL r (far - stP x) else shareR x.1 x.2 (far / stP x)
theorem atL_atR (far : Rat) : ∀ (l : List (Pt × Pt)) (ahead : Rat), atL l (far - ahead) = atR far l ahead
  | [], _ => rfl
  | x :: r, ahead => by
    unfold atL atR
    by_cases h : ahead + stP x < far
    · rw [if_pos h, if_pos (by grind), show far - ahead - stP x = far - (ahead + stP x) by grind, atL_atR far r]
    · rw [if_neg h, if_neg (by grind)]
theorem betw (p q s : Rat) : p * (1 - s) + q * s = p + s * (q - p) := by grind
end PL

/-! What is nearest: plain. -/
namespace PL
open PySem PySem.Spec PyProof.Rows L2
/-! ### rows of fractions, in their order -/
def lexL : List Rat → List Rat → Bool
  | x :: xs, y :: ys => if x = y then lexL xs ys else decide (x < y)
  | _, _ => false
def leastL : List (List Rat) → List Rat
  | [] => []
  | r :: rs => rs.foldl (fun f x => if lexL x f then x else f) r
def frs (r : List Rat) : Pv := .tup (r.map fr)
theorem lexL_head {x y : Rat} {xs ys : List Rat} (h : lexL (x :: xs) (y :: ys) = false) : y ≤ x := by
  unfold lexL at h
  split at h
  · rename_i e; rw [e]; exact Rat.le_refl
  · have := of_decide_eq_false h
    exact Rat.not_lt.mp this
theorem lexL_lt {x y : Rat} {xs ys : List Rat} (h : lexL (x :: xs) (y :: ys) = true) : x ≤ y := by
  unfold lexL at h
  split at h
  · rename_i e; rw [e]; exact Rat.le_refl
  · exact Rat.le_of_lt (of_decide_eq_true h)
/-- the least row is one of them, and none begins with less -/
theorem least_fold : ∀ (rs : List (List Rat)) (f : List Rat), (∀ r ∈ f :: rs, ∃ x xs, r = x :: xs) → (rs.foldl (fun f x => if lexL x f then x else f) f ∈ f :: rs) ∧ ∀ r ∈ f :: rs, (rs.foldl (fun f x => if lexL x f then x else f) f).headD 0 ≤ r.headD 0
  | [], f, _ => ⟨by simp, fun r hr => by rw [List.mem_singleton.mp hr]; exact Rat.le_refl⟩
  | r :: rs, f, h => by
    obtain ⟨x, xs, ex⟩ := h r (by simp)
    obtain ⟨y, ys, ey⟩ := h f (by simp)
    have step : ∀ g, g = (if lexL r f then r else f) → (g = r ∨ g = f) ∧ g.headD 0 ≤ r.headD 0 ∧ g.headD 0 ≤ f.headD 0 := fun g e => by
      subst ex ey
      cases hl : lexL (x :: xs) (y :: ys) with
      | true => rw [hl] at e; simp only [if_true] at e; rw [e]; exact ⟨.inl rfl, Rat.le_refl, lexL_lt hl⟩
      | false => rw [hl] at e; simp only [Bool.false_eq_true, if_false] at e; rw [e]; exact ⟨.inr rfl, lexL_head hl, Rat.le_refl⟩
    obtain ⟨s1, s2, s3⟩ := step _ rfl
    obtain ⟨i1, i2⟩ := least_fold rs (if lexL r f then r else f) (fun z hz => by
      rcases List.mem_cons.mp hz with rfl | hz
      · rcases s1 with e | e
        · rw [e]; exact ⟨x, xs, ex⟩
        · rw [e]; exact ⟨y, ys, ey⟩
      · exact h z (by simp [hz]))
    show ((rs.foldl (fun f x => if lexL x f then x else f) (if lexL r f then r else f)) ∈ f :: r :: rs) ∧ _
    refine ⟨?_, fun z hz => ?_⟩
    · rcases List.mem_cons.mp i1 with e | e
      · rw [e]; rcases s1 with e | e <;> rw [e] <;> simp
      · simp [e]
    · have i0 := i2 _ (List.mem_cons_self ..)
      rcases List.mem_cons.mp hz with rfl | hz
      · exact Rat.le_trans i0 s3
      · rcases List.mem_cons.mp hz with rfl | hz
        · exact Rat.le_trans i0 s2
        · exact i2 z (List.mem_cons_of_mem _ hz)
theorem least_mem {rs : List (List Rat)} (hn : rs ≠ []) (h : ∀ r ∈ rs, ∃ x xs, r = x :: xs) : leastL rs ∈ rs ∧ ∀ r ∈ rs, (leastL rs).headD 0 ≤ r.headD 0 := by
  cases rs with
  | nil => exact (hn rfl).elim
  | cons f rs => exact least_fold rs f h
/-! ### the law's own way: row by row -/
def stepN (o : Option (List Rat)) (r : List Rat) : Option (List Rat) := match o with
  | none => some r
  | some f => some (if lexL r f then r else f)
theorem stepN_fold : ∀ (rs : List (List Rat)) (f : List Rat), rs.foldl stepN (some f) = some (rs.foldl (fun f x => if lexL x f then x else f) f)
  | [], _ => rfl
  | r :: rs, f => stepN_fold rs _
theorem nearO {rs : List (List Rat)} (h : rs ≠ []) : rs.foldl stepN none = some (leastL rs) := by
  cases rs with
  | nil => exact (h rfl).elim
  | cons r rs => exact stepN_fold rs r
/-! ### where a piece is nearest -/
def dotR (p q x : Pt) : Rat := (q.1 - p.1) * (x.1 - p.1) + (q.2 - p.2) * (x.2 - p.2)
def lenR (p q : Pt) : Rat := (q.1 - p.1) * (q.1 - p.1) + (q.2 - p.2) * (q.2 - p.2)
def clampR (s : Rat) : Rat := if s < 0 then 0 else if 1 < s then 1 else s
def nearS (p q x : Pt) : Rat := clampR (dotR p q x / lenR p q)
theorem clamp_in (s : Rat) : 0 ≤ clampR s ∧ clampR s ≤ 1 := by
  unfold clampR
  split
  · exact ⟨Rat.le_refl, by decide +kernel⟩
  · split
    · exact ⟨by decide +kernel, Rat.le_refl⟩
    · exact ⟨by grind, by grind⟩
theorem sqq_nn (a : Rat) : 0 ≤ a * a := by
  by_cases h : 0 ≤ a
  · exact Rat.mul_nonneg h h
  · have : 0 ≤ -a := by grind
    have := Rat.mul_nonneg this this
    grind
theorem sq_pos {a : Rat} (h : a ≠ 0) : 0 < a * a := by
  have := sqq_nn a
  have h2 : a * a ≠ 0 := fun e => by
    rcases Rat.mul_eq_zero.mp e with e | e <;> exact h e
  grind
theorem lenR_pos {p q : Pt} (h : p ≠ q) : 0 < lenR p q := by
  unfold lenR
  have a := sqq_nn (q.1 - p.1)
  have b := sqq_nn (q.2 - p.2)
  by_cases e1 : p.1 = q.1
  · have e2 : q.2 - p.2 ≠ 0 := fun e => h (Prod.ext e1 (by grind))
    have := sq_pos e2
    grind
  · have := sq_pos (a := q.1 - p.1) (by grind)
    grind
theorem abs_sq (a : Rat) : absR a * absR a = a * a := by
  unfold absR
  split <;> grind
theorem sqR_eq (p q : Pt) : sqR p q = (p.1 - q.1) * (p.1 - q.1) + (p.2 - q.2) * (p.2 - q.2) := by
  unfold sqR stepsR
  rw [abs_sq, abs_sq]
theorem sq_share (p q x : Pt) (s : Rat) : sqR (shareR p q s) x = lenR p q * (s * s) - 2 * dotR p q x * s + sqR p x := by
  rw [sqR_eq, sqR_eq]
  unfold shareR lenR dotR
  grind
theorem near_least {p q : Pt} (h : p ≠ q) (x : Pt) {s : Rat} (h0 : 0 ≤ s) (h1 : s ≤ 1) : sqR (shareR p q (nearS p q x)) x ≤ sqR (shareR p q s) x := by
  have hL := lenR_pos h
  have hLn := Rat.le_of_lt hL
  rw [sq_share, sq_share]
  unfold nearS
  have ed : dotR p q x / lenR p q * lenR p q = dotR p q x := Rat.div_mul_cancel (by grind)
  generalize dotR p q x / lenR p q = t at ed ⊢
  rw [← ed]
  generalize lenR p q = L at hL hLn ⊢
  have key : ∀ c : Rat, 0 ≤ (s - c) * (s + c - 2 * t) → L * (c * c) - 2 * (t * L) * c ≤ L * (s * s) - 2 * (t * L) * s := fun c hc => by
    have := Rat.mul_nonneg hLn hc
    have e : L * ((s - c) * (s + c - 2 * t)) = (L * (s * s) - 2 * (t * L) * s) - (L * (c * c) - 2 * (t * L) * c) := by grind
    rw [e] at this
    grind
  have : L * (clampR t * clampR t) - 2 * (t * L) * clampR t ≤ L * (s * s) - 2 * (t * L) * s := by
    apply key
    unfold clampR
    split
    · have := Rat.mul_nonneg h0 (show 0 ≤ s - 2 * t by grind)
      grind
    · split
      · have := Rat.mul_nonneg (show 0 ≤ 1 - s by grind) (show 0 ≤ 2 * t - s - 1 by grind)
        grind
      · have := sqq_nn (s - t)
        grind
  grind
/-- the law's share: by three squared ways -/
theorem part_eq {p q : Pt} (h : p ≠ q) (x : Pt) : (sqR p q + (sqR p x - sqR q x)) / (2 * sqR p q) = dotR p q x / lenR p q := by
  have hL := lenR_pos h
  have e1 : sqR p q = lenR p q := by rw [sqR_eq]; unfold lenR; grind
  have e2 : sqR p q + (sqR p x - sqR q x) = 2 * dotR p q x := by rw [sqR_eq, sqR_eq, sqR_eq]; unfold dotR; grind
  rw [e2, e1]
  generalize lenR p q = L at hL ⊢
  generalize dotR p q x = D
  have h2 : (2 : Rat) * L ≠ 0 := by grind
  have a : D / L * L = D := Rat.div_mul_cancel (by grind)
  have b : 2 * D / (2 * L) * (2 * L) = 2 * D := Rat.div_mul_cancel h2
  have c : (2 * D / (2 * L) - D / L) * (2 * L) = 0 := by grind
  rcases Rat.mul_eq_zero.mp c with c | c
  · grind
  · exact (h2 c).elim
end PL

/-! The nearest spot of a web: plain. -/
namespace PL
open PySem PySem.Spec PyProof.Rows L2
theorem step_sz {p q : Pt} (h1 : GdP 1536 p) (h2 : GdP 1536 q) : Sz 12 (q.1 - p.1) ∧ Sz 12 (q.2 - p.2) := ⟨(h2.1.sub h1.1).sz (by decide) (by decide), (h2.2.sub h1.2).sz (by decide) (by decide)⟩
theorem Sz.dot {p q x : Pt} (h1 : GdP 1536 p) (h2 : GdP 1536 q) (h3 : SzP 90 x) : Sz 229 (dotR p q x) := by
  have a := step_sz h1 h2
  have b := h1.sz
  exact ((a.1.mul (h3.1.sub b.1)).add (a.2.mul (h3.2.sub b.2))).up (by decide)
theorem Sz.len {p q : Pt} (h1 : GdP 1536 p) (h2 : GdP 1536 q) : Sz 49 (lenR p q) := by
  have a := step_sz h1 h2
  exact ((a.1.mul a.1).add (a.2.mul a.2)).up (by decide)
theorem Sz.near {p q x : Pt} (h1 : GdP 1536 p) (h2 : GdP 1536 q) (h3 : SzP 90 x) (hn : p ≠ q) : Sz 278 (nearS p q x) := by
  have hp := lenR_pos hn
  have := (Sz.dot h1 h2 h3).div (Sz.len h1 h2) (by grind)
  unfold nearS clampR
  split
  · exact Sz.zero.up (by decide)
  · split
    · exact Sz.one.up (by decide)
    · exact this.up (by decide)
theorem SzP.share {n : Nat} {p q : Pt} {s : Rat} (h1 : GdP 1536 p) (h2 : GdP 1536 q) (hs : Sz n s) : SzP (n + 24) (shareR p q s) := by
  have a := step_sz h1 h2
  have b := h1.sz
  exact ⟨(b.1.add (hs.mul a.1)).up (by omega), (b.2.add (hs.mul a.2)).up (by omega)⟩
theorem Sz.sqR {n m : Nat} {p q : Pt} (h : SzP n p) (h' : SzP m q) : Sz (4 * (n + m + 1) + 1) (PL.sqR p q) := by
  have hs := h.steps h'
  exact ((hs.1.mul hs.1).add (hs.2.mul hs.2)).up (by omega)
/-! ### a row for each piece -/
def rowN (x : Pt) (i : Nat) (a : Rat) (c : Pt × Pt) : List Rat := [sqR (shareR c.1 c.2 (nearS c.1 c.2 x)) x, ((i : Int) : Rat), a + nearS c.1 c.2 x * stP c]
def rowsP (x : Pt) (i : Nat) : List (Pt × Pt) → Rat → List (List Rat)
  | [], _ => []
  | c :: r, a => rowN x i a c :: rowsP x i r (a + stP c)
theorem rowsP_snoc (x : Pt) (i : Nat) (c : Pt × Pt) : ∀ (l : List (Pt × Pt)) (a : Rat), rowsP x i (l ++ [c]) a = rowsP x i l a ++ [rowN x i ((l.map stP).foldl (· + ·) a) c]
  | [], _ => rfl
  | d :: l, a => by
    show rowN x i a d :: rowsP x i (l ++ [c]) (a + stP d) = _
    rw [rowsP_snoc x i c l]
    rfl
theorem rowsP_mem (x : Pt) (i : Nat) : ∀ (l : List (Pt × Pt)) (a : Rat) (r : List Rat), r ∈ rowsP x i l a ↔ ∃ pre c post, pre ++ c :: post = l ∧ r = rowN x i ((pre.map stP).foldl (· + ·) a) c
  | [], a, r => by
    constructor
    · intro h; cases h
    · rintro ⟨pre, c, post, e, _⟩; simp at e
  | d :: l, a, r => by
    show r ∈ rowN x i a d :: rowsP x i l (a + stP d) ↔ _
    rw [List.mem_cons, rowsP_mem x i l]
    constructor
    · rintro (rfl | ⟨pre, c, post, e, rfl⟩)
      · exact ⟨[], d, l, rfl, rfl⟩
      · exact ⟨d :: pre, c, post, by rw [List.cons_append, e], rfl⟩
    · rintro ⟨pre, c, post, e, rfl⟩
      cases pre with
      | nil =>
        obtain ⟨e1, e2⟩ := List.cons.inj e
        cases e1
        exact .inl rfl
      | cons p pre =>
        obtain ⟨e1, e2⟩ := List.cons.inj e
        cases e1
        exact .inr ⟨pre, c, post, e2, rfl⟩
def rowsI (W : Web) (x : Pt) (i : Nat) : List (List Rat) := rowsP x i (pcsW W i) 0
def rowsW (W : Web) (x : Pt) : List (List Rat) := (List.range W.2.length).flatMap (rowsI W x)
def rowV (r : List Rat) : Pv := .tup [fr (r.getD 0 0), .int (r.getD 1 0).num, fr (r.getD 2 0)]
def nearV (W : Web) (x : Pt) : Pv := match rowsW W x with
  | [] => .non
  | r :: rs => rowV (leastL (r :: rs))
theorem rowsW_mem {W : Web} {x : Pt} {r : List Rat} (h : r ∈ rowsW W x) : ∃ i pre c post, i < W.2.length ∧ pre ++ c :: post = pcsW W i ∧ r = rowN x i (sumR (pre.map stP)) c := by
  obtain ⟨i, hi, hr⟩ := List.mem_flatMap.mp h
  rw [List.mem_range] at hi
  obtain ⟨pre, c, post, e, er⟩ := (rowsP_mem x i _ _ r).mp hr
  exact ⟨i, pre, c, post, hi, e, er⟩
theorem row_sz {W : Web} {x : Pt} (hW : WebOk W) (hs : GdW W) (hx : SzP 90 x) {i : Nat} {pre post : List (Pt × Pt)} {c : Pt × Pt} (hi : i < W.2.length) (e : pre ++ c :: post = pcsW W i) : Sz 1573 (sqR (shareR c.1 c.2 (nearS c.1 c.2 x)) x) ∧ Sz 16 ((i : Int) : Rat) ∧ Sz 309 (sumR (pre.map stP) + nearS c.1 c.2 x * stP c) := by
  obtain ⟨g1, g2⟩ := pre_gd ⟨hW, hi⟩ hs e
  have hc : c ∈ pcsW W i := by rw [← e]; simp
  obtain ⟨c1, c2, c3⟩ := g2 c hc
  have hn := (hW.rd _ (rdAt_mem hi)).apart c hc
  have n := Sz.near c2 c3 hx hn
  refine ⟨(Sz.sqR (SzP.share c2 c3 n) hx).up (by decide), ?_, ((g1.sz (n := 16) (by decide) (by decide)).add (n.mul (c1.sz (n := 13) (by decide) (by decide)))).up (by decide)⟩
  have := hW.r
  exact ⟨by show (i : Int).natAbs < 2 ^ 16; omega, by show ((1 : Int)).natAbs < 2 ^ 16; decide⟩
/-! ### where the least row lies -/
theorem share_one (p q : Pt) : shareR p q 1 = q := by unfold shareR; exact Prod.ext (by show p.1 + 1 * (q.1 - p.1) = q.1; grind) (by show p.2 + 1 * (q.2 - p.2) = q.2; grind)
theorem share_zero (p q : Pt) : shareR p q 0 = p := by unfold shareR; exact Prod.ext (by show p.1 + 0 * (q.1 - p.1) = p.1; grind) (by show p.2 + 0 * (q.2 - p.2) = p.2; grind)
theorem pcs_next {α : Type} : ∀ (l : List α) (pre post : List (α × α)) (b c : α × α), pre ++ b :: c :: post = pcs l → b.2 = c.1
  | [], pre, post, b, c, e => by cases pre <;> simp [pcs] at e
  | [a], pre, post, b, c, e => by cases pre <;> simp [pcs] at e
  | [a, a'], pre, post, b, c, e => by
    have := congrArg List.length e
    simp [pcs] at this
    omega
  | a :: a' :: a'' :: l, [], post, b, c, e => by
    have e : b :: c :: post = (a, a') :: (a', a'') :: pcs (a'' :: l) := e
    obtain ⟨e1, e2⟩ := List.cons.inj e
    obtain ⟨e3, _⟩ := List.cons.inj e2
    rw [e1, e3]
  | a :: a' :: a'' :: l, p :: pre, post, b, c, e => by
    have e : p :: (pre ++ b :: c :: post) = (a, a') :: pcs (a' :: a'' :: l) := e
    exact pcs_next (a' :: a'' :: l) pre post b c (List.cons.inj e).2
theorem foldl_ge : ∀ (l : List (Pt × Pt)) (a : Rat), a ≤ (l.map stP).foldl (· + ·) a
  | [], _ => Rat.le_refl
  | c :: l, a => by
    have h1 := foldl_ge l (a + stP c)
    have h2 := stP_nn c
    show a ≤ (l.map stP).foldl (· + ·) (a + stP c)
    grind
theorem at_skip (far : Rat) : ∀ (pre r : List (Pt × Pt)) (a : Rat), (pre.map stP).foldl (· + ·) a < far → atR far (pre ++ r) a = atR far r ((pre.map stP).foldl (· + ·) a)
  | [], _, _, _ => rfl
  | c :: pre, r, a, h => by
    have h : (pre.map stP).foldl (· + ·) (a + stP c) < far := h
    have h1 := foldl_ge pre (a + stP c)
    show (if a + stP c < far then atR far (pre ++ r) (a + stP c) else _) = _
    rw [if_pos (by grind)]
    exact at_skip far pre r _ h
/-- the point so far along as the row tells -/
theorem at_row {W : Web} {i : Nat} (hW : WebOk W) (hi : i < W.2.length) {pre post : List (Pt × Pt)} {c : Pt × Pt} (e : pre ++ c :: post = pcsW W i) {s : Rat} (h0 : 0 ≤ s) (h1 : s ≤ 1) : pointW W (i, sumR (pre.map stP) + s * stP c) = shareR c.1 c.2 s := by
  have ap := (hW.rd _ (rdAt_mem hi)).apart
  have hp : ∀ x ∈ pcsW W i, 0 < stP x := fun x hx => stP_pos (ap x hx)
  have hc := hp c (by rw [← e]; simp)
  have sle : s * stP c ≤ stP c := by
    have := Rat.mul_nonneg (show 0 ≤ 1 - s by grind) (Rat.le_of_lt hc)
    grind
  unfold pointW
  show atR (sumR (pre.map stP) + s * stP c) (pcsW W i) 0 = _
  by_cases hs : s = 0
  · subst hs
    have z : sumR (pre.map stP) + 0 * stP c = sumR (pre.map stP) := by grind
    rw [z, share_zero]
    cases hq : pre.reverse with
    | nil =>
      have : pre = [] := by simpa using hq
      subst this
      rw [← e]
      show (if (0 : Rat) + stP c < 0 then _ else shareR c.1 c.2 ((0 - 0) / stP c)) = c.1
      rw [if_neg (by grind), show ((0 : Rat) - 0) / stP c = 0 by rw [show (0 : Rat) - 0 = 0 by grind, Rat.div_def, Rat.zero_mul], share_zero]
    | cons b rest =>
      have ep : pre = rest.reverse ++ [b] := by
        have := congrArg List.reverse hq
        simpa using this
      subst ep
      have hb := hp b (by rw [← e]; simp)
      rw [List.map_append, List.map_singleton, sumR_snoc, ← e, List.append_assoc]
      rw [at_skip _ _ _ 0 (by show sumR (rest.reverse.map stP) < _; grind)]
      show (if sumR (rest.reverse.map stP) + stP b < sumR (rest.reverse.map stP) + stP b then _ else shareR b.1 b.2 ((sumR (rest.reverse.map stP) + stP b - sumR (rest.reverse.map stP)) / stP b)) = c.1
      rw [if_neg (by grind), show sumR (rest.reverse.map stP) + stP b - sumR (rest.reverse.map stP) = stP b by grind, show stP b / stP b = 1 by rw [Rat.div_def, Rat.mul_inv_cancel _ (by grind)], share_one]
      exact pcs_next (lineW W i) rest.reverse post b c (by rw [List.append_assoc] at e; exact e)
  · have hs : 0 < s := by grind
    have hsc : 0 < s * stP c := Rat.mul_pos hs hc
    rw [← e, at_skip _ _ _ 0 (by show sumR (pre.map stP) < _; grind)]
    show (if sumR (pre.map stP) + stP c < sumR (pre.map stP) + s * stP c then _ else shareR c.1 c.2 ((sumR (pre.map stP) + s * stP c - sumR (pre.map stP)) / stP c)) = _
    rw [if_neg (by grind), show sumR (pre.map stP) + s * stP c - sumR (pre.map stP) = s * stP c by grind, Rat.mul_div_cancel (by grind)]
/-- each spot lies on some piece -/
theorem at_on (far : Rat) : ∀ (l : List (Pt × Pt)) (a : Rat), l ≠ [] → (∀ c ∈ l, 0 < stP c) → a ≤ far → far ≤ (l.map stP).foldl (· + ·) a → ∃ c ∈ l, ∃ s : Rat, 0 ≤ s ∧ s ≤ 1 ∧ atR far l a = shareR c.1 c.2 s
  | [], _, hn, _, _, _ => (hn rfl).elim
  | c :: l, a, _, hp, h0, h1 => by
    have hc := hp c List.mem_cons_self
    by_cases h : a + stP c < far
    · have hl : l ≠ [] := fun e => by
        subst e
        have h1 : far ≤ a + stP c := h1
        grind
      obtain ⟨d, hd, s, s0, s1, e⟩ := at_on far l (a + stP c) hl (fun x hx => hp x (List.mem_cons_of_mem _ hx)) (Rat.le_of_lt h) h1
      refine ⟨d, List.mem_cons_of_mem _ hd, s, s0, s1, ?_⟩
      rw [← e]
      show (if a + stP c < far then atR far l (a + stP c) else _) = _
      rw [if_pos h]
    · have e2 : (far - a) / stP c * stP c = far - a := Rat.div_mul_cancel (by grind)
      refine ⟨c, List.mem_cons_self, (far - a) / stP c, ?_, ?_, ?_⟩
      · refine Rat.le_of_mul_le_mul_right (c := stP c) ?_ hc
        rw [e2, Rat.zero_mul]
        grind
      · refine Rat.le_of_mul_le_mul_right (c := stP c) ?_ hc
        rw [e2, Rat.one_mul]
        grind
      · show (if a + stP c < far then _ else shareR c.1 c.2 ((far - a) / stP c)) = _
        rw [if_neg h]
theorem foldl_app_le (pre post : List (Pt × Pt)) (c : Pt × Pt) : sumR (pre.map stP) + stP c ≤ sumR ((pre ++ c :: post).map stP) := by
  have h := foldl_ge post (sumR (pre.map stP) + stP c)
  have e : sumR ((pre ++ c :: post).map stP) = (post.map stP).foldl (· + ·) (sumR (pre.map stP) + stP c) := by
    unfold sumR
    rw [List.map_append, List.foldl_append]
    rfl
  rw [e]
  exact h
/-- a row's spot -/
theorem row_spot {W : Web} {x : Pt} {i : Nat} (hi : i < W.2.length) {pre post : List (Pt × Pt)} {c : Pt × Pt} (e : pre ++ c :: post = pcsW W i) : SpotOk W (i, sumR (pre.map stP) + nearS c.1 c.2 x * stP c) := by
  have cl : 0 ≤ nearS c.1 c.2 x ∧ nearS c.1 c.2 x ≤ 1 := clamp_in _
  have hc := stP_nn c
  have a := foldl_ge pre 0
  have b := Rat.mul_nonneg cl.1 hc
  refine ⟨hi, ?_, ?_⟩
  · show 0 ≤ sumR (pre.map stP) + nearS c.1 c.2 x * stP c
    have : 0 ≤ sumR (pre.map stP) := a
    grind
  · show sumR (pre.map stP) + nearS c.1 c.2 x * stP c ≤ longW W i
    have s1 : nearS c.1 c.2 x * stP c ≤ stP c := by
      have := Rat.mul_nonneg (show 0 ≤ 1 - nearS c.1 c.2 x by grind) hc
      grind
    have h := foldl_app_le pre post c
    rw [e] at h
    have h : sumR (pre.map stP) + stP c ≤ longW W i := h
    grind
theorem pcs_ne {W : Web} {i : Nat} : pcsW W i ≠ [] := fun he => by
  have hl : (pcsW W i).length ≠ 0 := by
    unfold pcsW pcs lineW lineR
    rw [List.length_zip, List.length_tail]
    simp
  exact hl (by rw [he]; rfl)
/-- no spot is nearer than the least row tells -/
theorem none_nearer {W : Web} (hW : WebOk W) (x : Pt) {i : Nat} {far : Rat} (h : SpotOk W (i, far)) : ∃ r ∈ rowsW W x, r.headD 0 ≤ sqR (pointW W (i, far)) x := by
  have ap := (hW.rd _ (rdAt_mem h.i)).apart
  obtain ⟨c, hc, s, s0, s1, e⟩ := at_on far (pcsW W i) 0 pcs_ne (fun z hz => stP_pos (ap z hz)) h.nn h.le
  obtain ⟨pre, post, ep⟩ := List.append_of_mem hc
  refine ⟨rowN x i (sumR (pre.map stP)) c, List.mem_flatMap.mpr ⟨i, List.mem_range.mpr h.i, (rowsP_mem x i _ _ _).mpr ⟨pre, c, post, ep.symm, rfl⟩⟩, ?_⟩
  show sqR (shareR c.1 c.2 (nearS c.1 c.2 x)) x ≤ sqR (atR far (pcsW W i) 0) x
  rw [e]
  exact near_least (ap c hc) x s0 s1
end PL

/-! A list of one's own, filled step by step. -/
namespace PL
open PySem PySem.Spec PyProof.Rows L2
/-- a new list at l, all that stood before stands -/
structure Ow (S0 : Sto) (l : Addr) (zs : List Pv) (S : Sto) : Prop where
  at_ : S l = some (.lst zs)
  old : S0 l = none
  sub : Sub S0 S
theorem Ow.one {S : Sto} {l : Addr} {zs : List Pv} (h : S l = none) : Ow S l zs (put S l (.lst zs)) := ⟨put_same, h, fun b m hb => by
  by_cases e : b = l
  · rw [e, h] at hb; cases hb
  · rw [put_ne e]; exact hb⟩
theorem Ow.app {S0 S S' : Sto} {l : Addr} {zs ys : List Pv} (h : Ow S0 l zs S) (h1 : S' l = some (.lst ys)) (h2 : ∀ b, b ≠ l → S' b = S b) : Ow S0 l ys S' := ⟨h1, h.old, fun b m hb => by
  by_cases e : b = l
  · rw [e, h.old] at hb; cases hb
  · rw [h2 b e]; exact h.sub b m hb⟩
theorem rng_natB (n : Int) : rngP 0 n = (List.range n.toNat).map fun (j : Nat) => .int (j : Int) := by
  unfold rngP
  rw [Int.sub_zero]
  exact List.map_congr_left fun j _ => by rw [Int.zero_add]
theorem frs_D (r : List Rat) : isD (frs r) = true := isDs_mapA (fun _ => rfl) r
theorem frs_lay (r : List Rat) : PyData.canLay0 (toD (frs r)) = true := lay_map (f := fr) (fun _ => rfl) r
theorem frs_depth (r : List Rat) : (toD (frs r)).depth ≤ 2 := by
  show PyData.depthAll (toDs (r.map fr)) + 1 ≤ 2
  have := depth_map (f := fr) (d := 1) (fun _ => (show (1 : Nat) ≤ 1 from Nat.le_refl _)) r
  omega
theorem okD_rows (rs : List (List Rat)) : okD (.lst (rs.map frs)) = true := okD_lst frs_D frs_lay frs_depth (by decide) rs
theorem eqv_nilL (xs : List Pv) : PyData.eqv (toD (.lst xs)) (toD (.lst [])) = decide (xs = []) := by
  cases xs with
  | nil => rfl
  | cons x xs => rfl
end PL

namespace PL
open PySem PySem.Spec PyProof.Rows L2
def v_LAND : Pv := (.int 64)
def v_MOST_CROSSINGS : Pv := (.int 10)
def v_MOST_MIDDLE : Pv := (.int 4)
def v_MOST_ROADS : Pv := (.int 14)
def v_NOUGHT : Pv := (.tup [(.int 0), (.int 1)])
def v_ONE : Pv := (.tup [(.int 1), (.int 1)])

def sp_is_whole : PSp := SpF (fun (x : Pv) => [x]) (fun x => tyD x = true) fun x => .bl (isIntP x)
def b_is_whole : PFS :=
  gRet (fAndV (f1 (oIsi .int) (fVar 0)) (fNotV (f1 (oIsi .bl) (fVar 0))))
theorem len_is_whole : ∀ (xs : List Pv) (S : Sto) (Q : QV) (E : QE), sp_is_whole xs S Q E → xs.length = 1 := SpF.len fun _ => rfl
theorem mono_is_whole : ∀ (xs : List Pv) (S : Sto) (Q Q' : QV) (E E' : QE), (∀ p S', Q p S' → Q' p S') → (∀ C S', E C S' → E' C S') → sp_is_whole xs S Q E → sp_is_whole xs S Q' E' := SpF.mono
theorem ex_is_whole {xs : List Pv} {S0 : Sto} {Q : QV} {Ep : QE} : sp_is_whole xs S0 Q Ep → b_is_whole (endD Q) (st0 1 xs) S0 := SpF.ex fun x S Q h q => by
  cases x with
  | ref a => cases h
  | ty n => cases h
  | _ => exact Out.id q

def sp_is_within : PSp := SpF (fun (a : Pv × Int × Int) => [a.1, .int a.2.1, .int a.2.2]) (fun a => tyD a.1 = true) fun a => .bl (inQ a.2.1 a.2.2 a.1)
def b_is_within : PFS :=
  gRet (fAndV (fCall sp_is_whole [] noE (fCons (fVar 0) (fNil))) (fChain oLe oLe (fVar 1) (fVar 0) (fVar 2)))
theorem len_is_within : ∀ (xs : List Pv) (S : Sto) (Q : QV) (E : QE), sp_is_within xs S Q E → xs.length = 3 := SpF.len fun _ => rfl
theorem mono_is_within : ∀ (xs : List Pv) (S : Sto) (Q Q' : QV) (E E' : QE), (∀ p S', Q p S' → Q' p S') → (∀ C S', E C S' → E' C S') → sp_is_within xs S Q E → sp_is_within xs S Q' E' := SpF.mono
theorem ex_is_within {xs : List Pv} {S0 : Sto} {Q : QV} {Ep : QE} : sp_is_within xs S0 Q Ep → b_is_within (endD Q) (st0 3 xs) S0 := SpF.ex fun ⟨x, l, m⟩ S Q h q => by
  refine ⟨x, rfl, h, ?_⟩
  cases x with
  | int i =>
    have q : Q (.bl (decide (l ≤ i) && decide (i ≤ m))) S := q
    refine cnd_i (b := decide (l ≤ i)) (fun e => Out.id ?_) fun e => Out.id ?_
    · rw [e, Bool.true_and] at q; exact q
    · rw [e, Bool.false_and] at q; exact q
  | _ => exact Out.id q

def sp_is_row : PSp := SpF (fun (a : Pv × Nat × Nat × Nat) => [a.1, .int a.2.1, .int a.2.2.1, .int a.2.2.2]) (fun a => smP a.1 = true) fun a => .bl (rowP a.2.1 a.2.2.1 a.2.2.2 a.1)
def b_is_row : PFS :=
  gSeq (gIf (fOr (fNot (fBV (f1 (oIsi .tup) (fVar 0)))) (fNot (fBV (fChain oLe oLe (fVar 1) (fN oLen (fCons (fVar 0) (fNil))) (fVar 2))))) (gRet (fC (.bl false))) (gNext))
    (gRet (fN oAll (fCons (fLc (fIt (fVar 0)) (.nm 4) (fYes) (fAndV (f1 (oIsi .tup) (fVar 4)) (f2 oEq (fN oLen (fCons (fVar 4) (fNil))) (fVar 3))) [4]) (fNil))))
theorem len_is_row : ∀ (xs : List Pv) (S : Sto) (Q : QV) (E : QE), sp_is_row xs S Q E → xs.length = 4 := SpF.len fun _ => rfl
theorem mono_is_row : ∀ (xs : List Pv) (S : Sto) (Q Q' : QV) (E E' : QE), (∀ p S', Q p S' → Q' p S') → (∀ C S', E C S' → E' C S') → sp_is_row xs S Q E → sp_is_row xs S Q' E' := SpF.mono
theorem ex_is_row {xs : List Pv} {S0 : Sto} {Q : QV} {Ep : QE} : sp_is_row xs S0 Q Ep → b_is_row (endD Q) (st0 5 xs) S0 := SpF.ex fun ⟨x, a, b, n⟩ S Q h q => by
  have h : smP x = true := h
  cases x with
  | ref a => cases h
  | ty n => cases h
  | scr n => cases h
  | tup xs =>
    obtain ⟨hl, hs⟩ := smP_tup h
    have q : Q (.bl ((decide (a ≤ xs.length) && decide (xs.length ≤ b)) && xs.all (tupN n))) S := q
    have low : (decide (a ≤ xs.length) && decide (xs.length ≤ b)) = false → Out Q (.bl false) S := fun e => by
      rw [e, Bool.false_and] at q
      exact Out.id q
    refine cnd_i (b := decide ((a : Int) ≤ (xs.length : Nat))) (fun e1 => ?_) (fun e1 => ?_)
    · refine cnd_i (b := !decide (((xs.length : Nat) : Int) ≤ b)) (fun e2 => ?_) (fun e2 => ?_)
      · have := of_decide_eq_false (by simpa using e2 : decide (((xs.length : Nat) : Int) ≤ b) = false)
        exact low (by rw [decide_eq_false (show ¬ xs.length ≤ b by omega), Bool.and_false])
      · have e4 := of_decide_eq_true e1
        have e5 := of_decide_eq_true (by simpa using e2 : decide (((xs.length : Nat) : Int) ≤ b) = true)
        rw [decide_eq_true (show a ≤ xs.length by omega), decide_eq_true (show xs.length ≤ b by omega)] at q
        refine lc_map xs (fun x => x) (fun x => .bl (tupN n x)) (by rw [List.map_id']) (Nat.le_trans hl (by decide)) (fun _ _ => trivial) (fun y hy S2 _ => ⟨_, rfl, fun k hk => ?_⟩) ?_
        · have hy := smPs_mem hs y hy
          cases y with
          | ref a => cases hy
          | ty n => cases hy
          | scr n => cases hy
          | tup ys =>
            have hk : k (.bl (decide (ys.length = n))) S2 := hk
            have e : decide (((ys.length : Nat) : Int) = (n : Nat)) = decide (ys.length = n) := decide_eq_decide.mpr (by omega)
            rw [← e] at hk
            exact hk
          | _ => exact hk
        · refine all_i (f := tupN n) (xs := xs) (Out.id ?_)
          rw [List.all_map]
          exact q
    · have := of_decide_eq_false e1
      exact low (by rw [decide_eq_false (show ¬ a ≤ xs.length by omega), Bool.false_and])
  | _ => exact Out.id q

def sp_common_of : PSp := SpF (fun (a : Int × Int) => [.int a.1, .int a.2]) (fun _ => True) fun a => .int (Int.gcd a.1 a.2 : Nat)
def b_common_of : PFS :=
  gSeq (gPar 0 1 (fCons (fN oAbs (fCons (fVar 0) (fNil))) (fCons (fN oAbs (fCons (fVar 1) (fNil))) (fNil))))
    (gSeq (gWhile (fBV (f2 oNe (fVar 1) (fC (.int 0)))) (gPar 0 1 (fCons (fVar 1) (fCons (f2 oMod (fVar 0) (fVar 1)) (fNil)))))
    (gRet (fVar 0)))
theorem len_common_of : ∀ (xs : List Pv) (S : Sto) (Q : QV) (E : QE), sp_common_of xs S Q E → xs.length = 2 := SpF.len fun _ => rfl
theorem mono_common_of : ∀ (xs : List Pv) (S : Sto) (Q Q' : QV) (E E' : QE), (∀ p S', Q p S' → Q' p S') → (∀ C S', E C S' → E' C S') → sp_common_of xs S Q E → sp_common_of xs S Q' E' := SpF.mono
theorem ex_common_of {xs : List Pv} {S0 : Sto} {Q : QV} {Ep : QE} : sp_common_of xs S0 Q Ep → b_common_of (endD Q) (st0 2 xs) S0 := SpF.ex fun ⟨a, b⟩ S Q _ q => by
  refine ⟨fun m ρ S' => ∃ x y : Nat, ρ = [some (.int x), some (.int y)] ∧ S' = S ∧ Nat.gcd x y = Int.gcd a b ∧ m = y, ⟨b.natAbs, a.natAbs, b.natAbs, by simp only [absP]; rfl, rfl, rfl, rfl⟩, ?_⟩
  rintro m ρ S' ⟨x, y, rfl, rfl, hg, rfl⟩
  refine cnd_i (b := !decide ((m : Int) = 0)) (fun h => ?_) fun h => ?_
  · have hm : m ≠ 0 := by
      rintro rfl
      simp at h
    refine ⟨by show (m : Int) ≠ 0; omega, x % m, Nat.mod_lt _ (by omega), m, x % m, ?_, rfl, ?_, rfl⟩
    · rw [fmod_nat]; rfl
    · rw [← hg, Nat.gcd_comm x m, Nat.gcd_rec m x, Nat.gcd_comm]
  · have hm : m = 0 := by
      have h' : (m : Int) = 0 := by simpa using h
      omega
    subst hm
    rw [Nat.gcd_zero_right] at hg
    subst hg
    exact Out.id q

def sp_low : PSp := SpF (fun (a : Int × Int) => [.int a.1, .int a.2]) (fun a => a.2 ≠ 0 ∧ szI 8000 a.1 ∧ szI 8000 a.2) fun a => fr (Rat.divInt a.1 a.2)
def b_low : PFS :=
  gSeq (gSet 2 (fCall sp_common_of [] noE (fCons (fVar 0) (fCons (fVar 1) (fNil)))))
    (gSeq (gIf (fBV (f2 oLt (fVar 1) (fC (.int 0)))) (gSet 2 (f2 oSub (fC (.int 0)) (fVar 2))) (gNext))
    (gRet (fN oTup (fCons (f2 oDiv (fVar 0) (fVar 2)) (fCons (f2 oDiv (fVar 1) (fVar 2)) (fNil))))))
theorem len_low : ∀ (xs : List Pv) (S : Sto) (Q : QV) (E : QE), sp_low xs S Q E → xs.length = 2 := SpF.len fun _ => rfl
theorem mono_low : ∀ (xs : List Pv) (S : Sto) (Q Q' : QV) (E E' : QE), (∀ p S', Q p S' → Q' p S') → (∀ C S', E C S' → E' C S') → sp_low xs S Q E → sp_low xs S Q' E' := SpF.mono
theorem ex_low {xs : List Pv} {S0 : Sto} {Q : QV} {Ep : QE} : sp_low xs S0 Q Ep → b_low (endD Q) (st0 3 xs) S0 := SpF.ex fun ⟨t, b⟩ S Q ⟨hb, ht, hbb⟩ q => by
  have hb : b ≠ 0 := hb
  have hbb : szI 8000 b := hbb
  obtain ⟨e1, e2⟩ := low_num (t := t) hb
  have hg : Int.gcd t b ≠ 0 := by
    have := Int.gcd_pos_of_ne_zero_right t hb
    omega
  have hgs : szI 8000 (Int.gcd t b : Int) := by
    unfold szI at *
    have h1 : Int.gcd t b ≤ b.natAbs := Nat.le_of_dvd (by omega) (Nat.gcd_dvd_right t.natAbs b.natAbs)
    simp only [Int.natAbs_natCast]
    omega
  refine ⟨(t, b), rfl, trivial, cnd_i (b := decide (b < 0)) (fun h => ?_) fun h => ?_⟩
  · have h : b < 0 := by simpa using h
    rw [if_pos h] at e1 e2
    have hl : (0 - (Int.gcd t b : Int)).natAbs.log2 < 9000 := log_lt (n := 8001) ((szI.sub (n := 0) (show (0 : Int).natAbs < 2 ^ 0 by decide) hgs).up (by decide)) (by decide)
    refine ⟨⟨by show 0 - (Int.gcd t b : Int) ≠ 0; omega, hl⟩, ⟨by show 0 - (Int.gcd t b : Int) ≠ 0; omega, hl⟩, lz rfl, Out.id ?_⟩
    show Q (.tup [.int (t.fdiv (0 - (Int.gcd t b : Int))), .int (b.fdiv (0 - (Int.gcd t b : Int)))]) S
    rw [e1, e2]
    exact q
  · have h : ¬ b < 0 := by simpa using h
    rw [if_neg h] at e1 e2
    have hl : (Int.gcd t b : Int).natAbs.log2 < 9000 := log_lt hgs (by decide)
    refine ⟨⟨by show (Int.gcd t b : Int) ≠ 0; omega, hl⟩, ⟨by show (Int.gcd t b : Int) ≠ 0; omega, hl⟩, lz rfl, Out.id ?_⟩
    show Q (.tup [.int (t.fdiv (Int.gcd t b : Int)), .int (b.fdiv (Int.gcd t b : Int))]) S
    rw [e1, e2]
    exact q

def sp_is_fraction : PSp := SpF (fun (x : Pv) => [x]) (fun x => tyD x = true) fun x => .bl (fracP x)
def b_is_fraction : PFS :=
  gSeq (gIf (fOr (fNot (fBV (f1 (oIsi .tup) (fVar 0)))) (fOr (fBV (f2 oNe (fN oLen (fCons (fVar 0) (fNil))) (fC (.int 2)))) (fOr (fNot (fBV (fCall sp_is_whole [] noE (fCons (f2 oIx (fVar 0) (fC (.int 0))) (fNil))))) (fNot (fBV (fCall sp_is_whole [] noE (fCons (f2 oIx (fVar 0) (fC (.int 1))) (fNil)))))))) (gRet (fC (.bl false))) (gNext))
    (gRet (fAndV (f2 oGt (f2 oIx (fVar 0) (fC (.int 1))) (fC (.int 0))) (f2 oEq (fCall sp_common_of [] noE (fCons (f2 oIx (fVar 0) (fC (.int 0))) (fCons (f2 oIx (fVar 0) (fC (.int 1))) (fNil)))) (fC (.int 1)))))
theorem len_is_fraction : ∀ (xs : List Pv) (S : Sto) (Q : QV) (E : QE), sp_is_fraction xs S Q E → xs.length = 1 := SpF.len fun _ => rfl
theorem mono_is_fraction : ∀ (xs : List Pv) (S : Sto) (Q Q' : QV) (E E' : QE), (∀ p S', Q p S' → Q' p S') → (∀ C S', E C S' → E' C S') → sp_is_fraction xs S Q E → sp_is_fraction xs S Q' E' := SpF.mono
theorem ex_is_fraction {xs : List Pv} {S0 : Sto} {Q : QV} {Ep : QE} : sp_is_fraction xs S0 Q Ep → b_is_fraction (endD Q) (st0 1 xs) S0 := SpF.ex fun x S Q h q => by
  cases x with
  | ref a => cases h
  | ty n => cases h
  | tup xs =>
    match xs, h, q with
    | [], h, q => exact Out.id q
    | [a], h, q => exact Out.id q
    | [a, b], h, q =>
      have h2 : tyD a = true ∧ tyD b = true := by simpa [tyD, tyDs] using h
      refine ⟨a, rfl, h2.1, ?_⟩
      cases a with
      | int t =>
        refine ⟨b, rfl, h2.2, ?_⟩
        cases b with
        | int b =>
          refine cnd_i (b := decide (0 < b)) (fun e => ⟨(t, b), rfl, trivial, Out.id ?_⟩) fun e => Out.id ?_
          · have e2 : fracP (.tup [.int t, .int b]) = decide (((Int.gcd t b : Nat) : Int) = 1) := by
              show (decide (0 < b) && decide (Int.gcd t b = 1)) = _
              rw [e, Bool.true_and]
              exact decide_eq_decide.mpr (by omega)
            have q : Q (.bl (fracP (.tup [.int t, .int b]))) S := q
            rw [e2] at q
            exact q
          · have q : Q (.bl (fracP (.tup [.int t, .int b]))) S := q
            have e2 : fracP (.tup [.int t, .int b]) = false := by
              show (decide (0 < b) && decide (Int.gcd t b = 1)) = _
              rw [e, Bool.false_and]
            rw [e2] at q
            exact q
        | _ => exact Out.id q
      | _ => exact Out.id q
    | a :: b :: c :: r, h, q => exact Out.id q
  | _ => exact Out.id q

def sp_whole : PSp := SpF (fun (n : Int) => [.int n]) (fun _ => True) fun n => fr (n : Rat)
def b_whole : PFS :=
  gRet (fN oTup (fCons (fVar 0) (fCons (fC (.int 1)) (fNil))))
theorem len_whole : ∀ (xs : List Pv) (S : Sto) (Q : QV) (E : QE), sp_whole xs S Q E → xs.length = 1 := SpF.len fun _ => rfl
theorem mono_whole : ∀ (xs : List Pv) (S : Sto) (Q Q' : QV) (E E' : QE), (∀ p S', Q p S' → Q' p S') → (∀ C S', E C S' → E' C S') → sp_whole xs S Q E → sp_whole xs S Q' E' := SpF.mono
theorem ex_whole {xs : List Pv} {S0 : Sto} {Q : QV} {Ep : QE} : sp_whole xs S0 Q Ep → b_whole (endD Q) (st0 1 xs) S0 := SpF.ex fun n S Q _ k => ⟨lz rfl, Out.id k⟩

def sp_plus : PSp := SpF (fun (a : Rat × Rat) => [fr a.1, fr a.2]) (fun a => Sz 3900 a.1 ∧ Sz 3900 a.2) (fun a => fr (a.1 + a.2))
def b_plus : PFS :=
  gRet (fCall sp_low [] noE (fCons (f2 oAdd (f2 oMul (f2 oIx (fVar 0) (fC (.int 0))) (f2 oIx (fVar 1) (fC (.int 1)))) (f2 oMul (f2 oIx (fVar 1) (fC (.int 0))) (f2 oIx (fVar 0) (fC (.int 1))))) (fCons (f2 oMul (f2 oIx (fVar 0) (fC (.int 1))) (f2 oIx (fVar 1) (fC (.int 1)))) (fNil))))
theorem len_plus : ∀ (xs : List Pv) (S : Sto) (Q : QV) (E : QE), sp_plus xs S Q E → xs.length = 2 := SpF.len fun _ => rfl
theorem mono_plus : ∀ (xs : List Pv) (S : Sto) (Q Q' : QV) (E E' : QE), (∀ p S', Q p S' → Q' p S') → (∀ C S', E C S' → E' C S') → sp_plus xs S Q E → sp_plus xs S Q' E' := SpF.mono
theorem ex_plus {xs : List Pv} {S0 : Sto} {Q : QV} {Ep : QE} : sp_plus xs S0 Q Ep → b_plus (endD Q) (st0 2 xs) S0 := SpF.ex fun ⟨p, q⟩ S Q ⟨hp, hq⟩ k =>
  ⟨mulOk hp.1 hq.2 (by decide), mulOk hq.1 hp.2 (by decide), mulOk hp.2 hq.2 (by decide), (_, _), rfl, ⟨den2_ne p q, ((hp.1.mul hq.2).add (hq.1.mul hp.2)).up (by decide), (hp.2.mul hq.2).up (by decide)⟩, Out.id (by
    have k : Q (fr (p + q)) S := k
    rw [add_eq] at k
    exact k)⟩

def sp_minus : PSp := SpF (fun (a : Rat × Rat) => [fr a.1, fr a.2]) (fun a => Sz 3900 a.1 ∧ Sz 3900 a.2) (fun a => fr (a.1 - a.2))
def b_minus : PFS :=
  gRet (fCall sp_low [] noE (fCons (f2 oSub (f2 oMul (f2 oIx (fVar 0) (fC (.int 0))) (f2 oIx (fVar 1) (fC (.int 1)))) (f2 oMul (f2 oIx (fVar 1) (fC (.int 0))) (f2 oIx (fVar 0) (fC (.int 1))))) (fCons (f2 oMul (f2 oIx (fVar 0) (fC (.int 1))) (f2 oIx (fVar 1) (fC (.int 1)))) (fNil))))
theorem len_minus : ∀ (xs : List Pv) (S : Sto) (Q : QV) (E : QE), sp_minus xs S Q E → xs.length = 2 := SpF.len fun _ => rfl
theorem mono_minus : ∀ (xs : List Pv) (S : Sto) (Q Q' : QV) (E E' : QE), (∀ p S', Q p S' → Q' p S') → (∀ C S', E C S' → E' C S') → sp_minus xs S Q E → sp_minus xs S Q' E' := SpF.mono
theorem ex_minus {xs : List Pv} {S0 : Sto} {Q : QV} {Ep : QE} : sp_minus xs S0 Q Ep → b_minus (endD Q) (st0 2 xs) S0 := SpF.ex fun ⟨p, q⟩ S Q ⟨hp, hq⟩ k =>
  ⟨mulOk hp.1 hq.2 (by decide), mulOk hq.1 hp.2 (by decide), mulOk hp.2 hq.2 (by decide), (_, _), rfl, ⟨den2_ne p q, ((hp.1.mul hq.2).sub (hq.1.mul hp.2)).up (by decide), (hp.2.mul hq.2).up (by decide)⟩, Out.id (by
    have k : Q (fr (p - q)) S := k
    rw [sub_eq] at k
    exact k)⟩

def sp_times : PSp := SpF (fun (a : Rat × Rat) => [fr a.1, fr a.2]) (fun a => Sz 3900 a.1 ∧ Sz 3900 a.2) (fun a => fr (a.1 * a.2))
def b_times : PFS :=
  gRet (fCall sp_low [] noE (fCons (f2 oMul (f2 oIx (fVar 0) (fC (.int 0))) (f2 oIx (fVar 1) (fC (.int 0)))) (fCons (f2 oMul (f2 oIx (fVar 0) (fC (.int 1))) (f2 oIx (fVar 1) (fC (.int 1)))) (fNil))))
theorem len_times : ∀ (xs : List Pv) (S : Sto) (Q : QV) (E : QE), sp_times xs S Q E → xs.length = 2 := SpF.len fun _ => rfl
theorem mono_times : ∀ (xs : List Pv) (S : Sto) (Q Q' : QV) (E E' : QE), (∀ p S', Q p S' → Q' p S') → (∀ C S', E C S' → E' C S') → sp_times xs S Q E → sp_times xs S Q' E' := SpF.mono
theorem ex_times {xs : List Pv} {S0 : Sto} {Q : QV} {Ep : QE} : sp_times xs S0 Q Ep → b_times (endD Q) (st0 2 xs) S0 := SpF.ex fun ⟨p, q⟩ S Q ⟨hp, hq⟩ k =>
  ⟨mulOk hp.1 hq.1 (by decide), mulOk hp.2 hq.2 (by decide), (_, _), rfl, ⟨den2_ne p q, (hp.1.mul hq.1).up (by decide), (hp.2.mul hq.2).up (by decide)⟩, Out.id (by
    have k : Q (fr (p * q)) S := k
    rw [mul_eq] at k
    exact k)⟩

def sp_over : PSp := SpF (fun (a : Rat × Rat) => [fr a.1, fr a.2]) (fun a => Sz 3900 a.1 ∧ Sz 3900 a.2 ∧ a.2 ≠ 0) (fun a => fr (a.1 / a.2))
def b_over : PFS :=
  gRet (fCall sp_low [] noE (fCons (f2 oMul (f2 oIx (fVar 0) (fC (.int 0))) (f2 oIx (fVar 1) (fC (.int 1)))) (fCons (f2 oMul (f2 oIx (fVar 0) (fC (.int 1))) (f2 oIx (fVar 1) (fC (.int 0)))) (fNil))))
theorem len_over : ∀ (xs : List Pv) (S : Sto) (Q : QV) (E : QE), sp_over xs S Q E → xs.length = 2 := SpF.len fun _ => rfl
theorem mono_over : ∀ (xs : List Pv) (S : Sto) (Q Q' : QV) (E E' : QE), (∀ p S', Q p S' → Q' p S') → (∀ C S', E C S' → E' C S') → sp_over xs S Q E → sp_over xs S Q' E' := SpF.mono
theorem ex_over {xs : List Pv} {S0 : Sto} {Q : QV} {Ep : QE} : sp_over xs S0 Q Ep → b_over (endD Q) (st0 2 xs) S0 := SpF.ex fun ⟨p, q⟩ S Q ⟨hp, hq, hz⟩ k => by
  have hn : q.num ≠ 0 := fun e => hz (Rat.num_eq_zero.mp e)
  refine ⟨mulOk hp.1 hq.2 (by decide), mulOk hp.2 hq.1 (by decide), (_, _), rfl, ⟨Int.mul_ne_zero (den_ne p) hn, (hp.1.mul hq.2).up (by decide), (hp.2.mul hq.1).up (by decide)⟩, Out.id ?_⟩
  have k : Q (fr (p / q)) S := k
  rw [div_eq] at k
  exact k

def sp_less : PSp := SpF (fun (a : Rat × Rat) => [fr a.1, fr a.2]) (fun a => Sz 3900 a.1 ∧ Sz 3900 a.2) (fun a => .bl (decide (a.1 < a.2)))
def b_less : PFS :=
  gRet (f2 oLt (f2 oMul (f2 oIx (fVar 0) (fC (.int 0))) (f2 oIx (fVar 1) (fC (.int 1)))) (f2 oMul (f2 oIx (fVar 1) (fC (.int 0))) (f2 oIx (fVar 0) (fC (.int 1)))))
theorem len_less : ∀ (xs : List Pv) (S : Sto) (Q : QV) (E : QE), sp_less xs S Q E → xs.length = 2 := SpF.len fun _ => rfl
theorem mono_less : ∀ (xs : List Pv) (S : Sto) (Q Q' : QV) (E E' : QE), (∀ p S', Q p S' → Q' p S') → (∀ C S', E C S' → E' C S') → sp_less xs S Q E → sp_less xs S Q' E' := SpF.mono
theorem ex_less {xs : List Pv} {S0 : Sto} {Q : QV} {Ep : QE} : sp_less xs S0 Q Ep → b_less (endD Q) (st0 2 xs) S0 := SpF.ex fun ⟨p, q⟩ S Q ⟨hp, hq⟩ k => ⟨mulOk hp.1 hq.2 (by decide), mulOk hq.1 hp.2 (by decide), Out.id (by
    have k : Q (.bl (decide (p < q))) S := k
    rw [decide_eq_decide.mpr (Rat.lt_iff p q)] at k
    exact k)⟩

def sp_amount : PSp := SpF (fun (a : Rat) => [fr a]) (fun _ => True) (fun a => fr (absR a))
def b_amount : PFS :=
  gRet (fN oTup (fCons (fN oAbs (fCons (f2 oIx (fVar 0) (fC (.int 0))) (fNil))) (fCons (f2 oIx (fVar 0) (fC (.int 1))) (fNil))))
theorem len_amount : ∀ (xs : List Pv) (S : Sto) (Q : QV) (E : QE), sp_amount xs S Q E → xs.length = 1 := SpF.len fun _ => rfl
theorem mono_amount : ∀ (xs : List Pv) (S : Sto) (Q Q' : QV) (E E' : QE), (∀ p S', Q p S' → Q' p S') → (∀ C S', E C S' → E' C S') → sp_amount xs S Q E → sp_amount xs S Q' E' := SpF.mono
theorem ex_amount {xs : List Pv} {S0 : Sto} {Q : QV} {Ep : QE} : sp_amount xs S0 Q Ep → b_amount (endD Q) (st0 1 xs) S0 := SpF.ex fun p S Q _ k => ⟨lz rfl, Out.id (by
    have k : Q (fr (absR p)) S := k
    have e : fr (absR p) = .tup [.int (if p.num < 0 then -p.num else p.num), .int (p.den : Int)] := by rw [fr_abs, absP]
    rw [e] at k
    exact k)⟩

def sp_is_point : PSp := SpF (fun (x : Pv) => [x]) (fun x => tyD x = true) fun x => .bl (pointP x)
def b_is_point : PFS :=
  gRet (fAndV (f1 (oIsi .tup) (fVar 0)) (fAndV (f2 oEq (fN oLen (fCons (fVar 0) (fNil))) (fC (.int 2))) (fAndV (fCall sp_is_fraction [] noE (fCons (f2 oIx (fVar 0) (fC (.int 0))) (fNil))) (fCall sp_is_fraction [] noE (fCons (f2 oIx (fVar 0) (fC (.int 1))) (fNil))))))
theorem len_is_point : ∀ (xs : List Pv) (S : Sto) (Q : QV) (E : QE), sp_is_point xs S Q E → xs.length = 1 := SpF.len fun _ => rfl
theorem mono_is_point : ∀ (xs : List Pv) (S : Sto) (Q Q' : QV) (E E' : QE), (∀ p S', Q p S' → Q' p S') → (∀ C S', E C S' → E' C S') → sp_is_point xs S Q E → sp_is_point xs S Q' E' := SpF.mono
theorem ex_is_point {xs : List Pv} {S0 : Sto} {Q : QV} {Ep : QE} : sp_is_point xs S0 Q Ep → b_is_point (endD Q) (st0 1 xs) S0 := SpF.ex fun x S Q h q => by
  cases x with
  | ref a => cases h
  | ty n => cases h
  | tup xs =>
    match xs, h, q with
    | [], h, q => exact Out.id q
    | [a], h, q => exact Out.id q
    | [a, b], h, q =>
      have h2 : tyD a = true ∧ tyD b = true := by simpa [tyD, tyDs] using h
      have q : Q (.bl (fracP a && fracP b)) S := q
      refine ⟨a, rfl, h2.1, cnd_i (b := fracP a) (fun e => ⟨b, rfl, h2.2, Out.id ?_⟩) fun e => Out.id ?_⟩
      · rw [e] at q; exact q
      · rw [e] at q; exact q
    | a :: b :: c :: r, h, q => exact Out.id q
  | _ => exact Out.id q

def sp_need_point : PSp := SpF (fun (p : Rat × Rat) => [pt p]) (fun _ => True) fun _ => .non
def b_need_point : PFS :=
  gIf (fNot (fBV (fCall sp_is_point [] noE (fCons (fVar 0) (fNil))))) (gNever) (gNext)
theorem len_need_point : ∀ (xs : List Pv) (S : Sto) (Q : QV) (E : QE), sp_need_point xs S Q E → xs.length = 1 := SpF.len fun _ => rfl
theorem mono_need_point : ∀ (xs : List Pv) (S : Sto) (Q Q' : QV) (E E' : QE), (∀ p S', Q p S' → Q' p S') → (∀ C S', E C S' → E' C S') → sp_need_point xs S Q E → sp_need_point xs S Q' E' := SpF.mono
theorem ex_need_point {xs : List Pv} {S0 : Sto} {Q : QV} {Ep : QE} : sp_need_point xs S0 Q Ep → b_need_point (endD Q) (st0 1 xs) S0 := SpF.ex fun p S Q _ q =>
  ⟨pt p, rfl, rfl, cnd_i (b := !pointP (pt p)) (fun e => by rw [pointP_pt] at e; cases e) fun _ => Out.id q⟩

def sp_is_in_land : PSp := SpF (fun (p : Pt) => [pt p]) (fun _ => True) fun p => .bl (inLB p.1 && inLB p.2)
def b_is_in_land : PFS :=
  gRet (fN oAll (fCons (fLc (fIt (fVar 0)) (.nm 1) (fYes) (fChain oLe oLt (fC (.int 0)) (f2 oIx (fVar 1) (fC (.int 0))) (f2 oMul (fC v_LAND) (f2 oIx (fVar 1) (fC (.int 1))))) [1]) (fNil)))
theorem len_is_in_land : ∀ (xs : List Pv) (S : Sto) (Q : QV) (E : QE), sp_is_in_land xs S Q E → xs.length = 1 := SpF.len fun _ => rfl
theorem mono_is_in_land : ∀ (xs : List Pv) (S : Sto) (Q Q' : QV) (E E' : QE), (∀ p S', Q p S' → Q' p S') → (∀ C S', E C S' → E' C S') → sp_is_in_land xs S Q E → sp_is_in_land xs S Q' E' := SpF.mono
theorem ex_is_in_land {xs : List Pv} {S0 : Sto} {Q : QV} {Ep : QE} : sp_is_in_land xs S0 Q Ep → b_is_in_land (endD Q) (st0 2 xs) S0 := SpF.ex fun p S Q _ k => by
  refine lc_map [p.1, p.2] fr (fun x => .bl (inLB x)) rfl (lz rfl) (fun _ _ => trivial) (fun x hx S2 _ => ⟨_, rfl, fun k hk => ?_⟩) ?_
  · have hk : k (.bl (decide (0 ≤ x.num) && decide (x.num < 64 * x.den))) S2 := hk
    refine cnd_i (b := decide (0 ≤ x.num)) (fun e => ⟨CMul.ok (.inl ⟨by decide, by decide⟩), ?_⟩) (fun e => ?_)
    · rw [e, Bool.true_and] at hk; exact hk
    · rw [e, Bool.false_and] at hk; exact hk
  · refine all_j (f := inLB) (xs := [p.1, p.2]) (Out.id ?_)
    have e : [p.1, p.2].all inLB = (inLB p.1 && inLB p.2) := by simp
    rw [e]; exact k

theorem lexL_pre : ∀ (pre : List (Rat × Rat)) (xs ys : List Rat), (∀ z ∈ pre, z.1 = z.2) → ∀ (x y : Rat) (post : List (Rat × Rat)), pre ++ (x, y) :: post = xs.zip ys → x ≠ y → lexL xs ys = decide (x < y)
  | [], x' :: xs, y' :: ys, _, x, y, post, e, hn => by
    rw [List.nil_append, List.zip_cons_cons] at e
    obtain ⟨e1, e2⟩ := List.cons.inj e
    cases e1
    unfold lexL
    rw [if_neg hn]
  | z :: pre, x' :: xs, y' :: ys, h, x, y, post, e, hn => by
    rw [List.cons_append, List.zip_cons_cons] at e
    obtain ⟨e1, e2⟩ := List.cons.inj e
    have := h z List.mem_cons_self
    rw [e1] at this
    unfold lexL
    rw [if_pos this]
    exact lexL_pre pre xs ys (fun w hw => h w (List.mem_cons_of_mem _ hw)) x y post e2 hn
  | [], [], _, _, _, _, _, e, _ => by simp at e
  | [], _ :: _, [], _, _, _, _, e, _ => by simp at e
  | _ :: _, [], _, _, _, _, _, e, _ => by simp at e
  | _ :: _, _ :: _, [], _, _, _, _, e, _ => by simp at e
theorem lex_all : ∀ (xs ys : List Rat), (∀ z ∈ xs.zip ys, z.1 = z.2) → lexL xs ys = false
  | [], _, _ => by unfold lexL; rfl
  | _ :: _, [], _ => by unfold lexL; rfl
  | x :: xs, y :: ys, h => by
    have e : x = y := h (x, y) (by simp)
    unfold lexL
    rw [if_pos e]
    exact lex_all xs ys fun z hz => h z (by simp [hz])
theorem zip_frs (xs ys : List Rat) : zipP (xs.map fr) (ys.map fr) = (xs.zip ys).map fun z => .tup [fr z.1, fr z.2] := by
  rw [zipP_zip, List.zip_map, List.map_map]; rfl
def sp_before : PSp := SpF (fun (a : List Rat × List Rat) => [frs a.1, frs a.2]) (fun a => (∀ x ∈ a.1, Sz 3900 x) ∧ ∀ x ∈ a.2, Sz 3900 x) fun a => .bl (lexL a.1 a.2)
def b_before : PFS :=
  gSeq (gBeg [2, 3] (gFor (fZip (fCons (fVar 0) (fCons (fVar 1) (fNil)))) (.tp [.nm 2, .nm 3]) (gEnd [2, 3] (gIf (fBV (f2 oNe (fVar 2) (fVar 3))) (gRet (fCall sp_less [] noE (fCons (fVar 2) (fCons (fVar 3) (fNil))))) (gNext)))))
    (gRet (fC (.bl false)))
theorem len_before : ∀ (xs : List Pv) (S : Sto) (Q : QV) (E : QE), sp_before xs S Q E → xs.length = 2 := SpF.len fun _ => rfl
theorem mono_before : ∀ (xs : List Pv) (S : Sto) (Q Q' : QV) (E E' : QE), (∀ p S', Q p S' → Q' p S') → (∀ C S', E C S' → E' C S') → sp_before xs S Q E → sp_before xs S Q' E' := SpF.mono
theorem ex_before {xs : List Pv} {S0 : Sto} {Q : QV} {Ep : QE} : sp_before xs S0 Q Ep → b_before (endD Q) (st0 4 xs) S0 := SpF.ex fun ⟨xs, ys⟩ S Q ⟨h1, h2⟩ k => by
  have k : Q (.bl (lexL xs ys)) S := k
  conv => whnf
  rw [zip_frs]
  try simp only [st0, wipeP, List.set_cons_zero, List.set_cons_succ, List.map_cons, List.map_nil, List.cons_append, List.nil_append, List.replicate_succ, List.replicate_zero, List.length_cons, List.length_nil, Nat.reduceSub, Nat.reduceAdd]
  refine forW_a (fun z : Rat × Rat => .tup [fr z.1, fr z.2]) (xs.zip ys) (fun _ => [some (frs xs), some (frs ys), none, none]) (fun pre S2 => S2 = S ∧ ∀ z ∈ pre, z.1 = z.2) rfl rfl ⟨rfl, fun z hz => by cases hz⟩ ?_ ?_
  · rintro _ ⟨rfl, h⟩
    rw [lex_all xs ys h] at k
    exact ⟨trivial, Out.id k⟩
  · rintro pre ⟨x, y⟩ post e kk hk S2 ⟨rfl, h⟩
    have hm : (x, y) ∈ xs.zip ys := by rw [← e]; simp
    have hz := List.of_mem_zip hm
    refine ⟨trivial, ⟨okD_fr x, okD_fr y⟩, ?_⟩
    show cnd (!PyData.eqv (toD (fr x)) (toD (fr y))) _ _
    rw [eqv_fr]
    refine cnd_i (b := !decide (x = y)) (fun e2 => ?_) (fun e2 => ?_)
    · have e2 : x ≠ y := of_decide_eq_false (by simpa using e2)
      rw [lexL_pre pre xs ys h x y post e e2] at k
      exact ⟨(x, y), rfl, ⟨h1 x hz.1, h2 y hz.2⟩, Out.id k⟩
    · have e2 : x = y := of_decide_eq_true (by simpa using e2)
      refine hk _ ⟨rfl, fun z hz => ?_⟩
      rcases List.mem_append.mp hz with hz | hz
      · exact h z hz
      · rw [List.mem_singleton.mp hz]; exact e2

def sp_least_of : PSp := SpS (fun (a : Pv × List (List Rat)) => [a.1]) (fun a S => rdL S a.1 = some (a.2.map frs) ∧ (∃ b, a.1 = .ref b) ∧ a.2 ≠ [] ∧ (∀ r ∈ a.2, ∀ x ∈ r, Sz 3900 x)) fun a S p S' => p = frs (leastL a.2) ∧ S' = S
def b_least_of : PFS :=
  gSeq (gSet 1 (f2 oIx (fVar 0) (fC (.int 0))))
    (gSeq (gBeg [2] (gFor (fIt (fSl (fVar 0) (fPart (fC (.int 1))) (fNoPart))) (.nm 2) (gEnd [2] (gIf (fBV (fCall sp_before [] noE (fCons (fVar 2) (fCons (fVar 1) (fNil))))) (gSet 1 (fVar 2)) (gNext)))))
    (gRet (fVar 1)))
theorem len_least_of : ∀ (xs : List Pv) (S : Sto) (Q : QV) (E : QE), sp_least_of xs S Q E → xs.length = 1 := SpS.len fun _ => rfl
theorem mono_least_of : ∀ (xs : List Pv) (S : Sto) (Q Q' : QV) (E E' : QE), (∀ p S', Q p S' → Q' p S') → (∀ C S', E C S' → E' C S') → sp_least_of xs S Q E → sp_least_of xs S Q' E' := SpS.mono
theorem ex_least_of {xs : List Pv} {S0 : Sto} {Q : QV} {Ep : QE} : sp_least_of xs S0 Q Ep → b_least_of (endD Q) (st0 3 xs) S0 := SpS.ex fun ⟨p, rs⟩ S Q ⟨hr, ⟨b, hb⟩, hn, hz⟩ q => by
  have hr : rdL S p = some (rs.map frs) := hr
  have hb : p = .ref b := hb
  have hn : rs ≠ [] := hn
  have hz : ∀ r ∈ rs, ∀ x ∈ r, Sz 3900 x := hz
  have q : ∀ p S', p = frs (leastL rs) ∧ S' = S → Q p S' := q
  subst hb
  obtain ⟨r, rest, rfl⟩ := List.exists_cons_of_ne_nil hn
  conv => whnf
  rw [hr]
  conv => whnf
  rw [List.map_cons, at0]
  try simp only [st0, wipeP, List.set_cons_zero, List.set_cons_succ, List.map_cons, List.map_nil, List.cons_append, List.nil_append, List.replicate_succ, List.replicate_zero, List.length_cons, List.length_nil, Nat.reduceSub, Nat.reduceAdd]
  conv => whnf
  rw [hr]
  dsimp only
  rw [cut_tail, List.map_cons, List.tail_cons]
  refine forW_a frs rest (fun pre => [some (.ref b), some (frs (pre.foldl (fun f x => if lexL x f then x else f) r)), none]) (fun pre S2 => S2 = S) rfl rfl rfl ?_ ?_
  · rintro _ rfl
    exact ⟨trivial, Out.id (q _ _ ⟨rfl, rfl⟩)⟩
  · rintro pre x post e kk hk S2 rfl
    have hx : x ∈ r :: rest := by rw [← e]; simp
    have hf : ∀ l : List (List Rat), (∀ y ∈ l, y ∈ rest) → ∀ f ∈ r :: rest, l.foldl (fun f x => if lexL x f then x else f) f ∈ r :: rest := by
      intro l
      induction l with
      | nil => exact fun _ f hf => hf
      | cons y l ih =>
        intro hl f hf
        refine ih (fun z hz => hl z (List.mem_cons_of_mem _ hz)) _ ?_
        show (if lexL y f then y else f) ∈ r :: rest
        split
        · exact List.mem_cons_of_mem _ (hl y List.mem_cons_self)
        · exact hf
    have hm := hf pre (fun y hy => by rw [← e]; exact List.mem_append_left _ hy) r List.mem_cons_self
    refine ⟨trivial, (x, pre.foldl (fun f x => if lexL x f then x else f) r), rfl, ⟨hz x hx, hz _ hm⟩, ?_⟩
    have hk := hk S2 rfl
    rw [List.foldl_append] at hk
    have hk : kk [some (.ref b), some (frs (if lexL x (pre.foldl (fun f x => if lexL x f then x else f) r) then x else pre.foldl (fun f x => if lexL x f then x else f) r)), none] S2 := hk
    refine cnd_i (b := lexL x (pre.foldl (fun f x => if lexL x f then x else f) r)) (fun e2 => ?_) (fun e2 => ?_)
    · rw [e2] at hk; exact hk
    · rw [e2] at hk; exact hk

def sp_steps : PSp := SpF (fun (a : (Rat × Rat) × (Rat × Rat)) => [pt a.1, pt a.2]) (fun a => SzP 900 a.1 ∧ SzP 900 a.2) fun a => pt (stepsR a.1 a.2)
def b_steps : PFS :=
  gRet (fN oTup (fCons (fCall sp_amount [] noE (fCons (fCall sp_minus [] noE (fCons (f2 oIx (fVar 0) (fC (.int 0))) (fCons (f2 oIx (fVar 1) (fC (.int 0))) (fNil)))) (fNil))) (fCons (fCall sp_amount [] noE (fCons (fCall sp_minus [] noE (fCons (f2 oIx (fVar 0) (fC (.int 1))) (fCons (f2 oIx (fVar 1) (fC (.int 1))) (fNil)))) (fNil))) (fNil))))
theorem len_steps : ∀ (xs : List Pv) (S : Sto) (Q : QV) (E : QE), sp_steps xs S Q E → xs.length = 2 := SpF.len fun _ => rfl
theorem mono_steps : ∀ (xs : List Pv) (S : Sto) (Q Q' : QV) (E E' : QE), (∀ p S', Q p S' → Q' p S') → (∀ C S', E C S' → E' C S') → sp_steps xs S Q E → sp_steps xs S Q' E' := SpF.mono
theorem ex_steps {xs : List Pv} {S0 : Sto} {Q : QV} {Ep : QE} : sp_steps xs S0 Q Ep → b_steps (endD Q) (st0 2 xs) S0 := SpF.ex fun ⟨p, q⟩ S Q ⟨hp, hq⟩ k =>
  ⟨(p.1, q.1), rfl, ⟨hp.1.up (by decide), hq.1.up (by decide)⟩, p.1 - q.1, rfl, trivial, (p.2, q.2), rfl, ⟨hp.2.up (by decide), hq.2.up (by decide)⟩, p.2 - q.2, rfl, trivial, lz rfl, Out.id k⟩

def sp_squared_of : PSp := SpF (fun (a : (Rat × Rat) × (Rat × Rat)) => [pt a.1, pt a.2]) (fun a => SzP 900 a.1 ∧ SzP 900 a.2) fun a => fr (sqR a.1 a.2)
def b_squared_of : PFS :=
  gSeq (gTgt (.tp [.nm 2, .nm 3]) (fCall sp_steps [] noE (fCons (fVar 0) (fCons (fVar 1) (fNil)))))
    (gRet (fCall sp_plus [] noE (fCons (fCall sp_times [] noE (fCons (fVar 2) (fCons (fVar 2) (fNil)))) (fCons (fCall sp_times [] noE (fCons (fVar 3) (fCons (fVar 3) (fNil)))) (fNil)))))
theorem len_squared_of : ∀ (xs : List Pv) (S : Sto) (Q : QV) (E : QE), sp_squared_of xs S Q E → xs.length = 2 := SpF.len fun _ => rfl
theorem mono_squared_of : ∀ (xs : List Pv) (S : Sto) (Q Q' : QV) (E E' : QE), (∀ p S', Q p S' → Q' p S') → (∀ C S', E C S' → E' C S') → sp_squared_of xs S Q E → sp_squared_of xs S Q' E' := SpF.mono
theorem ex_squared_of {xs : List Pv} {S0 : Sto} {Q : QV} {Ep : QE} : sp_squared_of xs S0 Q Ep → b_squared_of (endD Q) (st0 4 xs) S0 := SpF.ex fun ⟨p, q⟩ S Q h k => by
  have hs := (h.1.steps h.2)
  have h1 := hs.1.mul hs.1
  have h2 := hs.2.mul hs.2
  exact ⟨(p, q), rfl, h, ((stepsR p q).1, (stepsR p q).1), rfl, ⟨hs.1.up (by decide), hs.1.up (by decide)⟩, ((stepsR p q).2, (stepsR p q).2), rfl, ⟨hs.2.up (by decide), hs.2.up (by decide)⟩, ((stepsR p q).1 * (stepsR p q).1, (stepsR p q).2 * (stepsR p q).2), rfl, ⟨h1.up (by decide), h2.up (by decide)⟩, Out.id k⟩

def sp_streetwise_of : PSp := SpF (fun (a : (Rat × Rat) × (Rat × Rat)) => [pt a.1, pt a.2]) (fun a => SzP 900 a.1 ∧ SzP 900 a.2) fun a => fr (stR a.1 a.2)
def b_streetwise_of : PFS :=
  gSeq (gTgt (.tp [.nm 2, .nm 3]) (fCall sp_steps [] noE (fCons (fVar 0) (fCons (fVar 1) (fNil)))))
    (gRet (fCall sp_plus [] noE (fCons (fVar 2) (fCons (fVar 3) (fNil)))))
theorem len_streetwise_of : ∀ (xs : List Pv) (S : Sto) (Q : QV) (E : QE), sp_streetwise_of xs S Q E → xs.length = 2 := SpF.len fun _ => rfl
theorem mono_streetwise_of : ∀ (xs : List Pv) (S : Sto) (Q Q' : QV) (E E' : QE), (∀ p S', Q p S' → Q' p S') → (∀ C S', E C S' → E' C S') → sp_streetwise_of xs S Q E → sp_streetwise_of xs S Q' E' := SpF.mono
theorem ex_streetwise_of {xs : List Pv} {S0 : Sto} {Q : QV} {Ep : QE} : sp_streetwise_of xs S0 Q Ep → b_streetwise_of (endD Q) (st0 4 xs) S0 := SpF.ex fun ⟨p, q⟩ S Q h k => by
  have hs := (h.1.steps h.2)
  exact ⟨(p, q), rfl, h, ((stepsR p q).1, (stepsR p q).2), rfl, ⟨hs.1.up (by decide), hs.2.up (by decide)⟩, Out.id k⟩

def sp_at_share : PSp := SpF (fun (a : Pt × Pt × Rat) => [pt a.1, pt a.2.1, fr a.2.2]) (fun a => SzP 900 a.1 ∧ SzP 900 a.2.1 ∧ Sz 900 a.2.2) fun a => pt (shareR a.1 a.2.1 a.2.2)
def b_at_share : PFS :=
  gRet (fN oTuple (fCons (fLc (fZip (fCons (fVar 0) (fCons (fVar 1) (fNil)))) (.tp [.nm 3, .nm 4]) (fYes) (fCall sp_plus [] noE (fCons (fVar 3) (fCons (fCall sp_times [] noE (fCons (fVar 2) (fCons (fCall sp_minus [] noE (fCons (fVar 4) (fCons (fVar 3) (fNil)))) (fNil)))) (fNil)))) [3, 4]) (fNil)))
theorem len_at_share : ∀ (xs : List Pv) (S : Sto) (Q : QV) (E : QE), sp_at_share xs S Q E → xs.length = 3 := SpF.len fun _ => rfl
theorem mono_at_share : ∀ (xs : List Pv) (S : Sto) (Q Q' : QV) (E E' : QE), (∀ p S', Q p S' → Q' p S') → (∀ C S', E C S' → E' C S') → sp_at_share xs S Q E → sp_at_share xs S Q' E' := SpF.mono
theorem ex_at_share {xs : List Pv} {S0 : Sto} {Q : QV} {Ep : QE} : sp_at_share xs S0 Q Ep → b_at_share (endD Q) (st0 5 xs) S0 := SpF.ex fun ⟨p, q, s⟩ S Q ⟨hp, hq, hs⟩ k => by
  have hp : SzP 900 p := hp
  have hq : SzP 900 q := hq
  have hs : Sz 900 s := hs
  refine lc_map [(p.1, q.1), (p.2, q.2)] (fun x => .tup [fr x.1, fr x.2]) (fun x => fr (x.1 + s * (x.2 - x.1))) rfl (lz rfl) (fun _ _ => trivial) (fun x hx S2 _ => ⟨_, rfl, fun k hk => ?_⟩) (Out.id k)
  have h : Sz 900 x.1 ∧ Sz 900 x.2 := by
    simp only [List.mem_cons, List.not_mem_nil, or_false] at hx
    rcases hx with rfl | rfl
    · exact ⟨hp.1, hq.1⟩
    · exact ⟨hp.2, hq.2⟩
  exact ⟨(x.2, x.1), rfl, ⟨h.2.up (by decide), h.1.up (by decide)⟩, (s, x.2 - x.1), rfl, ⟨hs.up (by decide), (h.2.sub h.1).up (by decide)⟩, (x.1, s * (x.2 - x.1)), rfl, ⟨h.1.up (by decide), (hs.mul (h.2.sub h.1)).up (by decide)⟩, hk⟩

theorem lptP_no {y : Pv} (h : pointP y = false) : lptP y = false := by
  cases e : lptP y with
  | false => rfl
  | true =>
    obtain ⟨p, rfl, _⟩ := lptP_is e
    rw [pointP_pt] at h
    cases h
def sp_are_land_points : PSp := SpF (fun (a : Pv × Nat × Nat) => [a.1, .int a.2.1, .int a.2.2]) (fun a => smP a.1 = true) fun a => .bl (lptsP a.2.1 a.2.2 a.1)
def b_are_land_points : PFS :=
  gSeq (gIf (fOr (fNot (fBV (f1 (oIsi .tup) (fVar 0)))) (fNot (fBV (fChain oLe oLe (fVar 1) (fN oLen (fCons (fVar 0) (fNil))) (fVar 2))))) (gRet (fC (.bl false))) (gNext))
    (gRet (fN oAll (fCons (fLc (fIt (fVar 0)) (.nm 3) (fYes) (fAndV (fCall sp_is_point [] noE (fCons (fVar 3) (fNil))) (fCall sp_is_in_land [] noE (fCons (fVar 3) (fNil)))) [3]) (fNil))))
theorem len_are_land_points : ∀ (xs : List Pv) (S : Sto) (Q : QV) (E : QE), sp_are_land_points xs S Q E → xs.length = 3 := SpF.len fun _ => rfl
theorem mono_are_land_points : ∀ (xs : List Pv) (S : Sto) (Q Q' : QV) (E E' : QE), (∀ p S', Q p S' → Q' p S') → (∀ C S', E C S' → E' C S') → sp_are_land_points xs S Q E → sp_are_land_points xs S Q' E' := SpF.mono
theorem ex_are_land_points {xs : List Pv} {S0 : Sto} {Q : QV} {Ep : QE} : sp_are_land_points xs S0 Q Ep → b_are_land_points (endD Q) (st0 4 xs) S0 := SpF.ex fun ⟨x, a, b⟩ S Q h q => by
  have h : smP x = true := h
  cases x with
  | ref a => cases h
  | ty n => cases h
  | scr n => cases h
  | tup xs =>
    obtain ⟨hl, hs⟩ := smP_tup h
    have q : Q (.bl ((decide (a ≤ xs.length) && decide (xs.length ≤ b)) && xs.all lptP)) S := q
    have low : (decide (a ≤ xs.length) && decide (xs.length ≤ b)) = false → Out Q (.bl false) S := fun e => by
      rw [e, Bool.false_and] at q
      exact Out.id q
    refine cnd_i (b := decide ((a : Int) ≤ (xs.length : Nat))) (fun e1 => ?_) (fun e1 => ?_)
    · refine cnd_i (b := !decide (((xs.length : Nat) : Int) ≤ b)) (fun e2 => ?_) (fun e2 => ?_)
      · have := of_decide_eq_false (by simpa using e2 : decide (((xs.length : Nat) : Int) ≤ b) = false)
        exact low (by rw [decide_eq_false (show ¬ xs.length ≤ b by omega), Bool.and_false])
      · have e4 := of_decide_eq_true e1
        have e5 := of_decide_eq_true (by simpa using e2 : decide (((xs.length : Nat) : Int) ≤ b) = true)
        rw [decide_eq_true (show a ≤ xs.length by omega), decide_eq_true (show xs.length ≤ b by omega)] at q
        refine lc_map xs (fun x => x) (fun x => .bl (lptP x)) (by rw [List.map_id']) (Nat.le_trans hl (by decide)) (fun _ _ => trivial) (fun y hy S2 _ => ⟨_, rfl, fun k hk => ?_⟩) ?_
        · refine ⟨y, rfl, smP_ty y (smPs_mem hs y hy), cnd_i (b := pointP y) (fun e => ?_) (fun e => ?_)⟩
          · obtain ⟨p, rfl⟩ := point_is e
            have hk : k (.bl (lptP (pt p))) S2 := hk
            rw [lptP_pt] at hk
            exact ⟨p, rfl, trivial, hk⟩
          · have hk : k (.bl (lptP y)) S2 := hk
            rw [lptP_no e] at hk
            exact hk
        · exact all_j (f := lptP) (xs := xs) (Out.id q)
    · have := of_decide_eq_false e1
      exact low (by rw [decide_eq_false (show ¬ a ≤ xs.length by omega), Bool.false_and])
  | _ => exact Out.id q

theorem roadP_4 (cs : List Pt) (a b m w : Pv) : roadP cs (.tup [a, b, m, w]) = true → (∃ i, a = .int i) ∧ (∃ j, b = .int j) ∧ ∃ ms, m = .tup ms := by
  intro h
  unfold roadP at h
  split at h
  · rename_i e
    simp only [Pv.tup.injEq, List.cons.injEq] at e
    exact ⟨⟨_, e.1⟩, ⟨_, e.2.1⟩, ⟨_, e.2.2.1⟩⟩
  · cases h
abbrev RoadT := List Pt × Pv × Pv × Pv × Pv
def sp_is_road : PSp := SpF (fun (a : RoadT) => [.tup (a.1.map pt), .tup [a.2.1, a.2.2.1, a.2.2.2.1, a.2.2.2.2]]) (fun a => a.1.length ≤ 10 ∧ smP a.2.1 = true ∧ smP a.2.2.1 = true ∧ smP a.2.2.2.1 = true ∧ smP a.2.2.2.2 = true) fun a => .bl (roadP a.1 (.tup [a.2.1, a.2.2.1, a.2.2.2.1, a.2.2.2.2]))
def b_is_road : PFS :=
  gSeq (gTgt (.tp [.nm 2, .nm 3, .nm 4, .nm 5]) (fVar 1))
    (gSeq (gSet 6 (f2 oSub (fN oLen (fCons (fVar 0) (fNil))) (fC (.int 1))))
    (gSeq (gIf (fOr (fNot (fBV (fCall sp_is_within [] noE (fCons (fVar 2) (fCons (fC (.int 0)) (fCons (fVar 6) (fNil))))))) (fOr (fNot (fBV (fCall sp_is_within [] noE (fCons (fVar 3) (fCons (fC (.int 0)) (fCons (fVar 6) (fNil))))))) (fOr (fBV (f2 oEq (fVar 2) (fVar 3))) (fNot (fBV (fCall sp_is_within [] noE (fCons (fVar 5) (fCons (fC (.int 1)) (fCons (fC (.int 2)) (fNil)))))))))) (gRet (fC (.bl false))) (gNext))
    (gSeq (gIf (fNot (fBV (fCall sp_are_land_points [] noE (fCons (fVar 4) (fCons (fC (.int 0)) (fCons (fC v_MOST_MIDDLE) (fNil))))))) (gRet (fC (.bl false))) (gNext))
    (gSeq (gSet 7 (f2 oAdd (f2 oAdd (fN oTup (fCons (f2 oIx (fVar 0) (fVar 2)) (fNil))) (fVar 4)) (fN oTup (fCons (f2 oIx (fVar 0) (fVar 3)) (fNil)))))
    (gRet (fN oAll (fCons (fLc (fZip (fCons (fVar 7) (fCons (fSl (fVar 7) (fPart (fC (.int 1))) (fNoPart)) (fNil)))) (.tp [.nm 8, .nm 9]) (fYes) (f2 oNe (fVar 8) (fVar 9)) [8, 9]) (fNil))))))))
theorem len_is_road : ∀ (xs : List Pv) (S : Sto) (Q : QV) (E : QE), sp_is_road xs S Q E → xs.length = 2 := SpF.len fun _ => rfl
theorem mono_is_road : ∀ (xs : List Pv) (S : Sto) (Q Q' : QV) (E E' : QE), (∀ p S', Q p S' → Q' p S') → (∀ C S', E C S' → E' C S') → sp_is_road xs S Q E → sp_is_road xs S Q' E' := SpF.mono
set_option maxHeartbeats 1000000 in
theorem ex_is_road {xs : List Pv} {S0 : Sto} {Q : QV} {Ep : QE} : sp_is_road xs S0 Q Ep → b_is_road (endD Q) (st0 10 xs) S0 := SpF.ex fun ⟨cs, a, b, m, w⟩ S Q ⟨hc, h1, h2, h3, h4⟩ q => by
  dsimp only at hc h1 h2 h3 h4
  have q : Q (.bl (roadP cs (.tup [a, b, m, w]))) S := q
  have no : roadP cs (.tup [a, b, m, w]) = false → Out Q (.bl false) S := fun e => by rw [e] at q; exact Out.id q
  try simp only [st0, wipeP, List.set_cons_zero, List.set_cons_succ, List.map_cons, List.map_nil, List.cons_append, List.nil_append, List.replicate_succ, List.replicate_zero, List.length_cons, List.length_nil, Nat.reduceSub, Nat.reduceAdd]
  have hl : ((cs.map pt).length : Int) - 1 = (cs.length : Int) - 1 := by rw [List.length_map]
  refine ⟨(a, 0, ((cs.map pt).length : Int) - 1), rfl, smP_ty a h1, cnd_i (b := !inQ 0 (((cs.map pt).length : Int) - 1) a) (fun e => no ?_) (fun e => ?_)⟩ <;> rw [hl] at e
  · have e : inQ 0 ((cs.length : Int) - 1) a = false := by simpa using e
    cases z : roadP cs (.tup [a, b, m, w]) with
    | false => rfl
    | true =>
      obtain ⟨⟨i, rfl⟩, ⟨j, rfl⟩, ms, rfl⟩ := roadP_4 cs a b m w z
      have z : ((inQ 0 ((cs.length : Int) - 1) (.int i) && _) && _ && _ && _) = true := z
      rw [e] at z
      simp at z
  obtain ⟨i, rfl, i0, i1⟩ := inQ_no (show inQ 0 ((cs.length : Int) - 1) a = true by simpa using e)
  refine ⟨(b, 0, ((cs.map pt).length : Int) - 1), rfl, smP_ty b h2, cnd_i (b := !inQ 0 (((cs.map pt).length : Int) - 1) b) (fun e2 => no ?_) (fun e2 => ?_)⟩ <;> rw [hl] at e2
  · have e2 : inQ 0 ((cs.length : Int) - 1) b = false := by simpa using e2
    cases z : roadP cs (.tup [.int i, b, m, w]) with
    | false => rfl
    | true =>
      obtain ⟨_, ⟨j, rfl⟩, ms, rfl⟩ := roadP_4 cs _ b m w z
      have z : ((_ && inQ 0 ((cs.length : Int) - 1) (.int j)) && _ && _ && _) = true := z
      rw [e2] at z
      simp at z
  obtain ⟨j, rfl, j0, j1⟩ := inQ_no (show inQ 0 ((cs.length : Int) - 1) b = true by simpa using e2)
  have rp : ∀ ms, roadP cs (.tup [.int i, .int j, .tup ms, w]) = ((inQ 0 ((cs.length : Int) - 1) (.int i) && inQ 0 ((cs.length : Int) - 1) (.int j)) && (!decide (i = j) && inQ 1 2 w) && lptsP 0 4 (.tup ms) && apartB (cor cs i.toNat :: (ms.map roadP.ptOf ++ [cor cs j.toNat]))) := fun _ => rfl
  have ei : inQ 0 ((cs.length : Int) - 1) (.int i) = true := by simpa using e
  have ej : inQ 0 ((cs.length : Int) - 1) (.int j) = true := by simpa using e2
  have tup : ∀ z, roadP cs (.tup [.int i, .int j, m, w]) = z → z = true → ∃ ms, m = .tup ms := fun z e h => (roadP_4 cs _ _ m w (e.trans h)).2.2
  refine cnd_i (b := decide (i = j)) (fun e3 => no ?_) (fun e3 => ?_)
  · cases z : roadP cs (.tup [.int i, .int j, m, w]) with
    | false => rfl
    | true =>
      obtain ⟨ms, rfl⟩ := tup _ z rfl
      rw [rp, e3] at z
      simp at z
  refine ⟨(w, 1, 2), rfl, smP_ty w h4, cnd_i (b := !inQ 1 2 w) (fun e4 => no ?_) (fun e4 => ?_)⟩
  · cases z : roadP cs (.tup [.int i, .int j, m, w]) with
    | false => rfl
    | true =>
      obtain ⟨ms, rfl⟩ := tup _ z rfl
      rw [rp, show inQ 1 2 w = false by simpa using e4] at z
      simp at z
  have e4 : inQ 1 2 w = true := by simpa using e4
  refine ⟨(m, 0, 4), rfl, h3, cnd_i (b := !lptsP 0 4 m) (fun e5 => no ?_) (fun e5 => ?_)⟩
  · cases z : roadP cs (.tup [.int i, .int j, m, w]) with
    | false => rfl
    | true =>
      obtain ⟨ms, rfl⟩ := tup _ z rfl
      rw [rp, show lptsP 0 4 (.tup ms) = false by simpa using e5] at z
      simp at z
  have e5 : lptsP 0 4 m = true := by simpa using e5
  cases m with
  | tup ms =>
    have e6 : ((decide (0 ≤ ms.length) && decide (ms.length ≤ 4)) && ms.all lptP) = true := e5
    simp only [Bool.and_eq_true, decide_eq_true_eq] at e6
    obtain ⟨ps, rfl, hp⟩ := lpts_is e6.2
    have hpl : ps.length ≤ 4 := by have := e6.1.2; rw [List.length_map] at this; exact this
    rw [rp, ei, ej, e3, e4, e5, ptOf_map] at q
    obtain ⟨i, rfl⟩ : ∃ n : Nat, i = (n : Int) := ⟨i.toNat, by omega⟩
    obtain ⟨j, rfl⟩ : ∃ n : Nat, j = (n : Int) := ⟨j.toNat, by omega⟩
    rw [Int.toNat_natCast, Int.toNat_natCast] at q
    have q : Q (.bl (apartB (cor cs i :: (ps ++ [cor cs j])))) S := q
    have ai := atI_nat (cor_get (cs := cs) (i := i) (by omega))
    have aj := atI_nat (cor_get (cs := cs) (i := j) (by omega))
    show (match atI (cs.map pt) (i : Int) with | some p => _ | none => False)
    rw [ai]
    refine ⟨lz rfl, Nat.le_trans (show 1 + (ps.map pt).length ≤ 9 by rw [List.length_map]; omega) (by decide), ?_⟩
    show (match atI (cs.map pt) (j : Int) with | some p => _ | none => False)
    rw [aj]
    refine ⟨lz rfl, Nat.le_trans (show ([pt (cor cs i)] ++ ps.map pt).length + 1 ≤ 9 by rw [List.length_append, List.length_map]; show 1 + ps.length + 1 ≤ 9; omega) (by decide), ?_⟩
    have el : [pt (cor cs i)] ++ ps.map pt ++ [pt (cor cs j)] = (cor cs i :: (ps ++ [cor cs j])).map pt := by simp
    rw [el]
    have hll : (cor cs i :: (ps ++ [cor cs j])).length ≤ 6 := by simp; omega
    generalize cor cs i :: (ps ++ [cor cs j]) = l at q hll ⊢
    try simp only [st0, wipeP, List.set_cons_zero, List.set_cons_succ, List.map_cons, List.map_nil, List.cons_append, List.nil_append, List.replicate_succ, List.replicate_zero, List.length_cons, List.length_nil, Nat.reduceSub, Nat.reduceAdd]
    conv => whnf
    rw [cut_tail, pcs_map]
    refine lc_map (pcs l) (fun x => .tup [pt x.1, pt x.2]) (fun x => .bl (!decide (x.1 = x.2))) rfl (Nat.le_trans (pcs_len l) (Nat.le_trans hll (by decide))) (fun _ _ => trivial) (fun x hx S2 _ => ⟨_, rfl, fun k hk => ?_⟩) ?_
    · refine ⟨⟨rfl, rfl⟩, ?_⟩
      show k (.bl (!PyData.eqv (toD (pt x.1)) (toD (pt x.2)))) S2
      rw [eqv_pt]
      exact hk
    · exact all_j (f := fun x : Pt × Pt => !decide (x.1 = x.2)) (xs := pcs l) (Out.id q)
  | _ => cases e5

theorem webB_2 {x y : Pv} (h : webB (.tup [x, y]) = true) : (∃ xs, x = .tup xs) ∧ ∃ ys, y = .tup ys := by
  unfold webB at h
  split at h
  · rename_i e
    simp only [Pv.tup.injEq, List.cons.injEq, and_true] at e
    exact ⟨⟨_, e.1⟩, ⟨_, e.2⟩⟩
  · cases h
theorem tup4_of {xs : List Pv} (h : xs.length = 4) : ∃ a b c d, xs = [a, b, c, d] := by
  match xs, h with
  | [a, b, c, d], _ => exact ⟨a, b, c, d, rfl⟩
def sp_is_web : PSp := SpF (fun (x : Pv) => [x]) (fun x => smP x = true) fun x => .bl (webB x)
def b_is_web : PFS :=
  gSeq (gIf (fOr (fNot (fBV (f1 (oIsi .tup) (fVar 0)))) (fBV (f2 oNe (fN oLen (fCons (fVar 0) (fNil))) (fC (.int 2))))) (gRet (fC (.bl false))) (gNext))
    (gSeq (gTgt (.tp [.nm 1, .nm 2]) (fVar 0))
    (gSeq (gIf (fOr (fNot (fBV (fCall sp_are_land_points [] noE (fCons (fVar 1) (fCons (fC (.int 1)) (fCons (fC v_MOST_CROSSINGS) (fNil))))))) (fBV (f2 oLt (fScLen (fIt (fVar 1)) (.nm 4) (fYes) (fVar 4) [4]) (fN oLen (fCons (fVar 1) (fNil)))))) (gRet (fC (.bl false))) (gNext))
    (gRet (fAndV (fCall sp_is_row [] noE (fCons (fVar 2) (fCons (fC (.int 0)) (fCons (fC v_MOST_ROADS) (fCons (fC (.int 4)) (fNil)))))) (fN oAll (fCons (fLc (fIt (fVar 2)) (.nm 3) (fYes) (fCall sp_is_road [] noE (fCons (fVar 1) (fCons (fVar 3) (fNil)))) [3]) (fNil)))))))
theorem len_is_web : ∀ (xs : List Pv) (S : Sto) (Q : QV) (E : QE), sp_is_web xs S Q E → xs.length = 1 := SpF.len fun _ => rfl
theorem mono_is_web : ∀ (xs : List Pv) (S : Sto) (Q Q' : QV) (E E' : QE), (∀ p S', Q p S' → Q' p S') → (∀ C S', E C S' → E' C S') → sp_is_web xs S Q E → sp_is_web xs S Q' E' := SpF.mono
set_option maxHeartbeats 1000000 in
theorem ex_is_web {xs : List Pv} {S0 : Sto} {Q : QV} {Ep : QE} : sp_is_web xs S0 Q Ep → b_is_web (endD Q) (st0 5 xs) S0 := SpF.ex fun x S Q h q => by
  have h : smP x = true := h
  have q : Q (.bl (webB x)) S := q
  cases x with
  | ref a => cases h
  | ty n => cases h
  | scr n => cases h
  | tup xs =>
    obtain ⟨hl, hs⟩ := smP_tup h
    have no : webB (.tup xs) = false → Out Q (.bl false) S := fun e => by rw [e] at q; exact Out.id q
    refine cnd_i (b := !decide (((xs.length : Nat) : Int) = 2)) (fun e => no ?_) (fun e => ?_)
    · have e : ¬ xs.length = 2 := by have := of_decide_eq_false (by simpa using e : decide (((xs.length : Nat) : Int) = 2) = false); omega
      unfold webB
      split
      · rename_i z
        cases z
        exact (e rfl).elim
      · rfl
    have e : xs.length = 2 := by have := of_decide_eq_true (by simpa using e : decide (((xs.length : Nat) : Int) = 2) = true); omega
    match xs, e with
    | [x, y], _ =>
      have sx : smP x = true ∧ smP y = true := ⟨smPs_mem hs x (by simp), smPs_mem hs y (by simp)⟩
      try simp only [st0, wipeP, List.set_cons_zero, List.set_cons_succ, List.map_cons, List.map_nil, List.cons_append, List.nil_append, List.replicate_succ, List.replicate_zero, List.length_cons, List.length_nil, Nat.reduceSub, Nat.reduceAdd]
      refine ⟨(x, 1, 10), rfl, sx.1, cnd_i (b := !lptsP 1 10 x) (fun e9 => no ?_) (fun e => ?_)⟩
      · cases z : webB (.tup [x, y]) with
        | false => rfl
        | true =>
          obtain ⟨⟨xs, rfl⟩, ys, rfl⟩ := webB_2 z
          have z : ((lptsP 1 10 (.tup xs) && _) && _) = true := z
          have e9 : lptsP 1 10 (.tup xs) = false := (Bool.not_eq_true' _).mp e9
          rw [e9] at z
          simp at z
      have e : lptsP 1 10 x = true := by simpa using e
      cases x with
      | tup xs =>
        have e6 : ((decide (1 ≤ xs.length) && decide (xs.length ≤ 10)) && xs.all lptP) = true := e
        simp only [Bool.and_eq_true, decide_eq_true_eq] at e6
        obtain ⟨cs, rfl, hp⟩ := lpts_is e6.2
        have hcl : cs.length ≤ 10 := by have := e6.1.2; rw [List.length_map] at this; exact this
        have wq : webB (.tup [.tup (cs.map pt), y]) = true → ∃ ys, y = .tup ys := fun z => (webB_2 z).2
        have wb : ∀ ys, webB (.tup [.tup (cs.map pt), .tup ys]) = (decide cs.Nodup && (rowP 0 14 4 (.tup ys) && ys.all (roadP cs))) := fun ys => by
          show ((lptsP 1 10 (.tup (cs.map pt)) && decide (((cs.map pt).map roadP.ptOf).Nodup)) && (rowP 0 14 4 (.tup ys) && ys.all (roadP ((cs.map pt).map roadP.ptOf)))) = _
          rw [e, ptOf_map]; rfl
        refine ⟨true, cs.map pt, by rw [List.length_map]; omega, scW_map pt pt trivial cs [] (fun p _ => ⟨_, rfl, fun k hk => hk⟩) (fun p hp => ⟨kOk_pt p, List.mem_map.mpr ⟨p, hp, rfl⟩⟩) ?_⟩
        intro us hu
        rw [List.nil_append] at hu
        obtain ⟨js, rfl, nd, hm⟩ := setOf_map pt_inj hu
        have el : decide ((((js.map pt).length : Nat) : Int) < (((cs.map pt).length : Nat) : Int)) = !decide cs.Nodup := by
          rw [← set_lt nd hm, List.length_map, List.length_map]
          exact decide_eq_decide.mpr (by omega)
        refine cnd_i (b := decide ((((js.map pt).length : Nat) : Int) < (((cs.map pt).length : Nat) : Int))) (fun e2 => no ?_) (fun e2 => ?_)
        · rw [el] at e2
          cases z : webB (.tup [.tup (cs.map pt), y]) with
          | false => rfl
          | true =>
            obtain ⟨ys, rfl⟩ := wq z
            rw [wb, show decide cs.Nodup = false by simpa using e2] at z
            cases z
        rw [el] at e2
        have e2 : decide cs.Nodup = true := by simpa using e2
        try simp only [st0, wipeP, List.set_cons_zero, List.set_cons_succ, List.map_cons, List.map_nil, List.cons_append, List.nil_append, List.replicate_succ, List.replicate_zero, List.length_cons, List.length_nil, Nat.reduceSub, Nat.reduceAdd]
        refine ⟨(y, 0, 14, 4), rfl, sx.2, cnd_i (b := rowP 0 14 4 y) (fun e3 => ?_) (fun e3 => no ?_)⟩
        · cases y with
          | tup ys =>
            rw [wb, e2, e3, Bool.true_and, Bool.true_and] at q
            have e4 : ((decide (0 ≤ ys.length) && decide (ys.length ≤ 14)) && ys.all (tupN 4)) = true := e3
            simp only [Bool.and_eq_true, decide_eq_true_eq] at e4
            have sy := (smP_tup sx.2).2
            refine lc_map ys (fun y => y) (fun y => .bl (roadP cs y)) (by rw [List.map_id']) (Nat.le_trans e4.1.2 (by decide)) (fun _ _ => trivial) (fun r hr S2 _ => ⟨_, rfl, fun k hk => ?_⟩) ?_
            · have h4 := List.all_eq_true.mp e4.2 r hr
              have hsr := smPs_mem sy r hr
              cases r with
              | tup rs =>
                obtain ⟨a, b, c, d, rfl⟩ := tup4_of (of_decide_eq_true h4)
                have h5 := (smP_tup hsr).2
                exact ⟨(cs, a, b, c, d), rfl, ⟨hcl, smPs_mem h5 a (by simp), smPs_mem h5 b (by simp), smPs_mem h5 c (by simp), smPs_mem h5 d (by simp)⟩, hk⟩
              | _ => cases h4
            · exact all_j (f := roadP cs) (xs := ys) (Out.id q)
          | _ => cases e3
        · cases z : webB (.tup [.tup (cs.map pt), y]) with
          | false => rfl
          | true =>
            obtain ⟨ys, rfl⟩ := wq z
            rw [wb, e3] at z
            simp at z
      | _ => cases e
  | _ => exact Out.id q

def sp_need_web : PSp := SpF (fun (x : Pv) => [x]) (fun x => smP x = true ∧ webB x = true) fun _ => .non
def b_need_web : PFS :=
  gIf (fNot (fBV (fCall sp_is_web [] noE (fCons (fVar 0) (fNil))))) (gNever) (gNext)
theorem len_need_web : ∀ (xs : List Pv) (S : Sto) (Q : QV) (E : QE), sp_need_web xs S Q E → xs.length = 1 := SpF.len fun _ => rfl
theorem mono_need_web : ∀ (xs : List Pv) (S : Sto) (Q Q' : QV) (E E' : QE), (∀ p S', Q p S' → Q' p S') → (∀ C S', E C S' → E' C S') → sp_need_web xs S Q E → sp_need_web xs S Q' E' := SpF.mono
theorem ex_need_web {xs : List Pv} {S0 : Sto} {Q : QV} {Ep : QE} : sp_need_web xs S0 Q Ep → b_need_web (endD Q) (st0 1 xs) S0 := SpF.ex fun x S Q ⟨h, hz⟩ k => ⟨x, rfl, h, cnd_f (b := !webB x) (by rw [hz]; rfl) (Out.id k)⟩

def sp_corners_of : PSp := SpF webA WebI fun a => .tup ((lineW a.1 a.2).map pt)
def b_corners_of : PFS :=
  gSeq (gTgt (.tp [.nm 2, .nm 3, .nm 4, .nm 5]) (f2 oIx (f2 oIx (fVar 0) (fC (.int 1))) (fVar 1)))
    (gRet (f2 oAdd (f2 oAdd (fN oTup (fCons (f2 oIx (f2 oIx (fVar 0) (fC (.int 0))) (fVar 2)) (fNil))) (fVar 4)) (fN oTup (fCons (f2 oIx (f2 oIx (fVar 0) (fC (.int 0))) (fVar 3)) (fNil)))))
theorem len_corners_of : ∀ (xs : List Pv) (S : Sto) (Q : QV) (E : QE), sp_corners_of xs S Q E → xs.length = 2 := SpF.len fun _ => rfl
theorem mono_corners_of : ∀ (xs : List Pv) (S : Sto) (Q Q' : QV) (E E' : QE), (∀ p S', Q p S' → Q' p S') → (∀ C S', E C S' → E' C S') → sp_corners_of xs S Q E → sp_corners_of xs S Q' E' := SpF.mono
theorem ex_corners_of {xs : List Pv} {S0 : Sto} {Q : QV} {Ep : QE} : sp_corners_of xs S0 Q Ep → b_corners_of (endD Q) (st0 6 xs) S0 := SpF.ex fun ⟨W, i⟩ S Q ⟨hW, hi⟩ k => by
  have hr := hW.rd _ (rdAt_mem hi)
  have k : Q (.tup ((lineW W i).map pt)) S := k
  have hm : (rdAt W i).mid.length ≤ 4 := hr.mid
  show (match atI (W.2.map rdP) (i : Int) with | some p => _ | none => False)
  rw [atI_nat (rdAt_get hi)]
  show (match atI (W.1.map pt) ((rdAt W i).a : Int) with | some p => _ | none => False)
  rw [atI_nat (cor_get hr.a)]
  refine ⟨lz rfl, Nat.le_trans (show 1 + ((rdAt W i).mid.map pt).length ≤ 9 by rw [List.length_map]; omega) (by decide), ?_⟩
  show (match atI (W.1.map pt) ((rdAt W i).b : Int) with | some p => _ | none => False)
  rw [atI_nat (cor_get hr.b)]
  refine ⟨lz rfl, Nat.le_trans (show ([pt (cor W.1 (rdAt W i).a)] ++ (rdAt W i).mid.map pt).length + 1 ≤ 9 by rw [List.length_append, List.length_map]; show 1 + _ + 1 ≤ 9; omega) (by decide), Out.id ?_⟩
  have e : [pt (cor W.1 (rdAt W i).a)] ++ (rdAt W i).mid.map pt ++ [pt (cor W.1 (rdAt W i).b)] = (lineW W i).map pt := by unfold lineW lineR; simp
  rw [e]
  exact k

def sp_pieces_of : PSp := SpF webA WebI fun a => .lst ((pcsW a.1 a.2).map pcP)
def b_pieces_of : PFS :=
  gSeq (gSet 2 (fCall sp_corners_of [] noE (fCons (fVar 0) (fCons (fVar 1) (fNil)))))
    (gRet (fN oLz (fCons (fVar 2) (fCons (fSl (fVar 2) (fPart (fC (.int 1))) (fNoPart)) (fNil)))))
theorem len_pieces_of : ∀ (xs : List Pv) (S : Sto) (Q : QV) (E : QE), sp_pieces_of xs S Q E → xs.length = 2 := SpF.len fun _ => rfl
theorem mono_pieces_of : ∀ (xs : List Pv) (S : Sto) (Q Q' : QV) (E E' : QE), (∀ p S', Q p S' → Q' p S') → (∀ C S', E C S' → E' C S') → sp_pieces_of xs S Q E → sp_pieces_of xs S Q' E' := SpF.mono
theorem ex_pieces_of {xs : List Pv} {S0 : Sto} {Q : QV} {Ep : QE} : sp_pieces_of xs S0 Q Ep → b_pieces_of (endD Q) (st0 3 xs) S0 := SpF.ex fun ⟨W, i⟩ S Q h k => by
  refine ⟨(W, i), rfl, h, ?_⟩
  have k : Q (.lst ((pcsW W i).map pcP)) S := k
  conv => whnf
  rw [cut_tail, pcs_map]
  exact Out.id k

def sp_share_near : PSp := SpF (fun (a : Pt × Pt × Pt) => [pt a.1, pt a.2.1, pt a.2.2]) (fun a => (GdP 1536 a.1 ∧ GdP 1536 a.2.1 ∧ SzP 90 a.2.2) ∧ a.1 ≠ a.2.1) fun a => fr (nearS a.1 a.2.1 a.2.2)
def b_share_near : PFS :=
  gSeq (gPar 3 4 (fCons (fC v_NOUGHT) (fCons (fC v_NOUGHT) (fNil))))
    (gSeq (gBeg [5, 6, 7, 8] (gFor (fZip3 (fCons (fVar 0) (fCons (fVar 1) (fCons (fVar 2) (fNil))))) (.tp [.nm 5, .nm 6, .nm 7]) (gEnd [5, 6, 7, 8] (gSeq (gSet 8 (fCall sp_minus [] noE (fCons (fVar 6) (fCons (fVar 5) (fNil)))))
    (gSeq (gSet 3 (fCall sp_plus [] noE (fCons (fVar 3) (fCons (fCall sp_times [] noE (fCons (fVar 8) (fCons (fCall sp_minus [] noE (fCons (fVar 7) (fCons (fVar 5) (fNil)))) (fNil)))) (fNil)))))
    (gSet 4 (fCall sp_plus [] noE (fCons (fVar 4) (fCons (fCall sp_times [] noE (fCons (fVar 8) (fCons (fVar 8) (fNil)))) (fNil))))))))))
    (gSeq (gSet 9 (fCall sp_over [] noE (fCons (fVar 3) (fCons (fVar 4) (fNil)))))
    (gSeq (gIf (fBV (fCall sp_less [] noE (fCons (fVar 9) (fCons (fC v_NOUGHT) (fNil))))) (gRet (fC v_NOUGHT)) (gNext))
    (gRet (fIf (fBV (fCall sp_less [] noE (fCons (fC v_ONE) (fCons (fVar 9) (fNil))))) (fC v_ONE) (fVar 9))))))
theorem len_share_near : ∀ (xs : List Pv) (S : Sto) (Q : QV) (E : QE), sp_share_near xs S Q E → xs.length = 3 := SpF.len fun _ => rfl
theorem mono_share_near : ∀ (xs : List Pv) (S : Sto) (Q Q' : QV) (E E' : QE), (∀ p S', Q p S' → Q' p S') → (∀ C S', E C S' → E' C S') → sp_share_near xs S Q E → sp_share_near xs S Q' E' := SpF.mono
set_option maxHeartbeats 400000 in
theorem ex_share_near {xs : List Pv} {S0 : Sto} {Q : QV} {Ep : QE} : sp_share_near xs S0 Q Ep → b_share_near (endD Q) (st0 10 xs) S0 := SpF.ex fun ⟨p, q, x⟩ S Q ⟨⟨h1, h2, h3⟩, hn⟩ k => by
  have g1 : GdP 1536 p := h1
  have g2 : GdP 1536 q := h2
  have h3 : SzP 90 x := h3
  have h1 := g1.sz
  have h2 := g2.sz
  have hn : p ≠ q := hn
  have k : Q (fr (nearS p q x)) S := k
  have hp := lenR_pos hn
  have w1 := (step_sz g1 g2).1
  have w2 := (step_sz g1 g2).2
  have v1 := h3.1.sub h1.1
  have v2 := h3.2.sub h1.2
  have z0 : Sz 1 (0 : Rat) := Sz.zero.up (by decide)
  have z1 := z0.add (w1.mul v1)
  have z2 := z0.add (w1.mul w1)
  simp only [b_share_near, gSeq, gPar, gBeg, gFor, fZip3, fCons, fNil, fVar, fC, st0, wipeP, List.map_cons, List.map_nil, List.cons_append, List.nil_append, List.length_cons, List.length_nil, List.replicate_succ, List.replicate_zero, Nat.reduceSub, Nat.reduceAdd, List.getElem?_cons_zero, List.getElem?_cons_succ, List.set_cons_zero, List.set_cons_succ, pt, zip3P]
  refine ⟨trivial, ?_⟩
  show gSeq _ _ _ [some (pt p), some (pt q), some (pt x), some (fr 0), some (fr 0), some (fr p.1), some (fr q.1), some (fr x.1), none, none] S
  refine ⟨(q.1, p.1), rfl, ⟨h2.1.up (by decide), h1.1.up (by decide)⟩, ?_⟩
  try simp only [st0, wipeP, List.set_cons_zero, List.set_cons_succ, List.map_cons, List.map_nil, List.cons_append, List.nil_append, List.replicate_succ, List.replicate_zero, List.length_cons, List.length_nil, Nat.reduceSub, Nat.reduceAdd]
  refine ⟨(x.1, p.1), rfl, ⟨h3.1.up (by decide), h1.1.up (by decide)⟩, (q.1 - p.1, x.1 - p.1), rfl, ⟨w1.up (by decide), v1.up (by decide)⟩, (0, (q.1 - p.1) * (x.1 - p.1)), rfl, ⟨z0.up (by decide), (w1.mul v1).up (by decide)⟩, ?_⟩
  try simp only [st0, wipeP, List.set_cons_zero, List.set_cons_succ, List.map_cons, List.map_nil, List.cons_append, List.nil_append, List.replicate_succ, List.replicate_zero, List.length_cons, List.length_nil, Nat.reduceSub, Nat.reduceAdd]
  refine ⟨(q.1 - p.1, q.1 - p.1), rfl, ⟨w1.up (by decide), w1.up (by decide)⟩, (0, (q.1 - p.1) * (q.1 - p.1)), rfl, ⟨z0.up (by decide), (w1.mul w1).up (by decide)⟩, ?_⟩
  refine ⟨trivial, ?_⟩
  show gSeq _ _ _ [some (pt p), some (pt q), some (pt x), some (fr (0 + (q.1 - p.1) * (x.1 - p.1))), some (fr (0 + (q.1 - p.1) * (q.1 - p.1))), some (fr p.2), some (fr q.2), some (fr x.2), none, none] S
  refine ⟨(q.2, p.2), rfl, ⟨h2.2.up (by decide), h1.2.up (by decide)⟩, ?_⟩
  try simp only [st0, wipeP, List.set_cons_zero, List.set_cons_succ, List.map_cons, List.map_nil, List.cons_append, List.nil_append, List.replicate_succ, List.replicate_zero, List.length_cons, List.length_nil, Nat.reduceSub, Nat.reduceAdd]
  refine ⟨(x.2, p.2), rfl, ⟨h3.2.up (by decide), h1.2.up (by decide)⟩, (q.2 - p.2, x.2 - p.2), rfl, ⟨w2.up (by decide), v2.up (by decide)⟩, (0 + (q.1 - p.1) * (x.1 - p.1), (q.2 - p.2) * (x.2 - p.2)), rfl, ⟨z1.up (by decide), (w2.mul v2).up (by decide)⟩, ?_⟩
  try simp only [st0, wipeP, List.set_cons_zero, List.set_cons_succ, List.map_cons, List.map_nil, List.cons_append, List.nil_append, List.replicate_succ, List.replicate_zero, List.length_cons, List.length_nil, Nat.reduceSub, Nat.reduceAdd]
  refine ⟨(q.2 - p.2, q.2 - p.2), rfl, ⟨w2.up (by decide), w2.up (by decide)⟩, (0 + (q.1 - p.1) * (q.1 - p.1), (q.2 - p.2) * (q.2 - p.2)), rfl, ⟨z2.up (by decide), (w2.mul w2).up (by decide)⟩, ?_⟩
  refine ⟨trivial, ?_⟩
  show gSeq _ _ _ [some (pt p), some (pt q), some (pt x), some (fr (0 + (q.1 - p.1) * (x.1 - p.1) + (q.2 - p.2) * (x.2 - p.2))), some (fr (0 + (q.1 - p.1) * (q.1 - p.1) + (q.2 - p.2) * (q.2 - p.2))), none, none, none, none, none] S
  have e1 : 0 + (q.1 - p.1) * (x.1 - p.1) + (q.2 - p.2) * (x.2 - p.2) = dotR p q x := by unfold dotR; grind
  have e2 : 0 + (q.1 - p.1) * (q.1 - p.1) + (q.2 - p.2) * (q.2 - p.2) = lenR p q := by unfold lenR; grind
  rw [e1, e2]
  have d1 := Sz.dot g1 g2 h3
  have d2 := Sz.len g1 g2
  have d3 := d1.div d2 (by grind)
  unfold nearS clampR at k
  refine ⟨(dotR p q x, lenR p q), rfl, ⟨d1.up (by decide), d2.up (by decide), show lenR p q ≠ 0 by grind⟩, ?_⟩
  try simp only [st0, wipeP, List.set_cons_zero, List.set_cons_succ, List.map_cons, List.map_nil, List.cons_append, List.nil_append, List.replicate_succ, List.replicate_zero, List.length_cons, List.length_nil, Nat.reduceSub, Nat.reduceAdd]
  refine ⟨(dotR p q x / lenR p q, 0), rfl, ⟨d3.up (by decide), z0.up (by decide)⟩, cnd_i (b := decide (dotR p q x / lenR p q < 0)) (fun e => ?_) (fun e => ?_)⟩
  · rw [if_pos (of_decide_eq_true e)] at k
    exact Out.id k
  · rw [if_neg (of_decide_eq_false e)] at k
    refine ⟨(1, dotR p q x / lenR p q), rfl, ⟨Sz.one.up (by decide), d3.up (by decide)⟩, cnd_i (b := decide (1 < dotR p q x / lenR p q)) (fun e => ?_) (fun e => ?_)⟩
    · rw [if_pos (of_decide_eq_true e)] at k
      exact Out.id k
    · rw [if_neg (of_decide_eq_false e)] at k
      exact Out.id k

def sp_nearest_by : PSp := SpF (fun (a : Web × Pt) => [webP a.1, pt a.2]) (fun a => WebOk a.1 ∧ GdW a.1 ∧ SzP 90 a.2) fun a => nearV a.1 a.2
def b_nearest_by : PFS :=
  gSeq (gSet 2 (fN oLstT (fNil)))
    (gSeq (gBeg [3, 4, 5, 6, 7, 8, 9] (gFor (fRng1 (fCons (fN oLen (fCons (f2 oIx (fVar 0) (fC (.int 1))) (fNil))) (fNil))) (.nm 3) (gEnd [3, 4, 5, 6, 7, 8, 9] (gSeq (gSet 4 (fC v_NOUGHT))
    (gBeg [5, 6, 7, 8, 9] (gFor (fIt (fCall sp_pieces_of [] noE (fCons (fVar 0) (fCons (fVar 3) (fNil))))) (.tp [.nm 5, .nm 6]) (gEnd [5, 6, 7, 8, 9] (gSeq (gPar 7 8 (fCons (fCall sp_share_near [] noE (fCons (fVar 5) (fCons (fVar 6) (fCons (fVar 1) (fNil))))) (fCons (fCall sp_streetwise_of [] noE (fCons (fVar 5) (fCons (fVar 6) (fNil)))) (fNil))))
    (gSeq (gSet 9 (fCall sp_squared_of [] noE (fCons (fCall sp_at_share [] noE (fCons (fVar 5) (fCons (fVar 6) (fCons (fVar 7) (fNil))))) (fCons (fVar 1) (fNil)))))
    (gSeq (gDrop (fMeth ckL oAppend (fVar 2) (fCons (fN oTup (fCons (fVar 9) (fCons (fCall sp_whole [] noE (fCons (fVar 3) (fNil))) (fCons (fCall sp_plus [] noE (fCons (fVar 4) (fCons (fCall sp_times [] noE (fCons (fVar 7) (fCons (fVar 8) (fNil)))) (fNil)))) (fNil))))) (fNil))))
    (gSet 4 (fCall sp_plus [] noE (fCons (fVar 4) (fCons (fVar 8) (fNil)))))))))))))))
    (gSeq (gIf (fBV (f2 oEq (fVar 2) (fN oLst (fNil)))) (gRet (fC .non)) (gNext))
    (gSeq (gTgt (.tp [.nm 9, .nm 3, .nm 10]) (fCall sp_least_of [] noE (fCons (fVar 2) (fNil))))
    (gRet (fN oTup (fCons (fVar 9) (fCons (f2 oIx (fVar 3) (fC (.int 0))) (fCons (fVar 10) (fNil)))))))))
theorem len_nearest_by : ∀ (xs : List Pv) (S : Sto) (Q : QV) (E : QE), sp_nearest_by xs S Q E → xs.length = 2 := SpF.len fun _ => rfl
theorem mono_nearest_by : ∀ (xs : List Pv) (S : Sto) (Q Q' : QV) (E E' : QE), (∀ p S', Q p S' → Q' p S') → (∀ C S', E C S' → E' C S') → sp_nearest_by xs S Q E → sp_nearest_by xs S Q' E' := SpF.mono
set_option maxHeartbeats 1000000 in
theorem ex_nearest_by {xs : List Pv} {S0 : Sto} {Q : QV} {Ep : QE} : sp_nearest_by xs S0 Q Ep → b_nearest_by (endD Q) (st0 11 xs) S0 := SpF.ex fun ⟨W, x⟩ S Q ⟨hW, hs, hx⟩ k => by
  have hW : WebOk W := hW
  have hs : GdW W := hs
  have hx : SzP 90 x := hx
  have k : Q (nearV W x) S := k
  have hr := hW.r
  refine ⟨lz rfl, fun a ha => ?_⟩
  have o1 := Ow.one (zs := ([] : List (List Rat)).map frs) ha
  have hb : bnd (((W.2.map rdP).length : Nat) : Int) := by rw [List.length_map]; exact ⟨by omega, by omega⟩
  refine ⟨hb, ?_⟩
  try simp only [st0, wipeP, List.set_cons_zero, List.set_cons_succ, List.map_cons, List.map_nil, List.cons_append, List.nil_append, List.replicate_succ, List.replicate_zero, List.length_cons, List.length_nil, Nat.reduceSub, Nat.reduceAdd]
  show forW _ _ _ _ (rngP 0 (((W.2.map rdP).length : Nat) : Int)) _ _
  rw [rng_natB, Int.toNat_natCast, List.length_map]
  refine forW_a (fun (j : Nat) => .int (j : Int)) (List.range W.2.length) (fun _ => [some (webP W), some (pt x), some (.ref a), none, none, none, none, none, none, none, none]) (fun pre S2 => Ow S a ((pre.flatMap (rowsI W x)).map frs) S2) rfl rfl o1 ?_ ?_
  rotate_left
  · rintro pre j post e kk hk S2 o2
    have hj : j < W.2.length := by
      have : j ∈ List.range W.2.length := by rw [← e]; simp
      exact List.mem_range.mp this
    have hl : ((pre.flatMap (rowsI W x))).length ≤ 14 * 6 := by
      have h1 : pre.length ≤ 14 := by
        have := congrArg List.length e
        simp only [List.length_append, List.length_cons, List.length_range] at this
        omega
      have h2 : ∀ l : List Nat, (∀ i ∈ l, i < W.2.length) → (l.flatMap (rowsI W x)).length ≤ l.length * 6 := by
        intro l
        induction l with
        | nil => exact fun _ => Nat.le_refl _
        | cons i l ih =>
          intro hi
          rw [List.flatMap_cons, List.length_append, List.length_cons]
          have h3 := ih fun z hz => hi z (List.mem_cons_of_mem _ hz)
          have h4 : (rowsI W x i).length ≤ 6 := by
            have lenp : ∀ (l : List (Pt × Pt)) (b : Rat), (rowsP x i l b).length = l.length := by
              intro l
              induction l with
              | nil => exact fun _ => rfl
              | cons c l ih => exact fun b => by show (rowsP x i l _).length + 1 = _; rw [ih]; rfl
            unfold rowsI
            rw [lenp]
            exact Nat.le_trans (pcs_len _) (line_len hW (hi i List.mem_cons_self))
          omega
      have := h2 pre fun i hi => List.mem_range.mp (by rw [← e]; exact List.mem_append_left _ hi)
      omega
    refine ⟨trivial, (W, j), rfl, ⟨hW, hj⟩, ?_⟩
    try simp only [st0, wipeP, List.set_cons_zero, List.set_cons_succ, List.map_cons, List.map_nil, List.cons_append, List.nil_append, List.replicate_succ, List.replicate_zero, List.length_cons, List.length_nil, Nat.reduceSub, Nat.reduceAdd]
    refine forW_a pcP (pcsW W j) (fun p2 => [some (webP W), some (pt x), some (.ref a), some (.int j), some (fr (sumR (p2.map stP))), none, none, none, none, none, none]) (fun p2 S3 => Ow S a ((pre.flatMap (rowsI W x) ++ rowsP x j p2 0).map frs) S3) rfl rfl (by rw [show rowsP x j [] 0 = [] from rfl, List.append_nil]; exact o2) ?_ ?_
    · intro S3 o3
      refine ⟨trivial, hk _ ?_⟩
      rw [List.flatMap_append]
      simpa [rowsI] using o3
    · rintro p2 c post2 e2 kk2 hk2 S3 o3
      obtain ⟨g1, g2⟩ := pre_gd ⟨hW, hj⟩ hs e2
      have hc : c ∈ pcsW W j := by rw [← e2]; simp
      obtain ⟨c1, c2, c3⟩ := g2 c hc
      have hn := (hW.rd _ (rdAt_mem hj)).apart c hc
      have zn := Sz.near c2 c3 hx hn
      have zs := SzP.share c2 c3 zn
      have z1 : Sz 16 (sumR (p2.map stP)) := g1.sz (by decide) (by decide)
      have z2 : Sz 13 (stP c) := c1.sz (by decide) (by decide)
      refine ⟨trivial, (c.1, c.2, x), rfl, ⟨⟨c2, c3, hx⟩, hn⟩, (c.1, c.2), rfl, ⟨c2.sz.up (by decide), c3.sz.up (by decide)⟩, ?_⟩
      try simp only [st0, wipeP, List.set_cons_zero, List.set_cons_succ, List.map_cons, List.map_nil, List.cons_append, List.nil_append, List.replicate_succ, List.replicate_zero, List.length_cons, List.length_nil, Nat.reduceSub, Nat.reduceAdd]
      refine ⟨(c.1, c.2, nearS c.1 c.2 x), rfl, ⟨c2.sz.up (by decide), c3.sz.up (by decide), zn.up (by decide)⟩, (shareR c.1 c.2 (nearS c.1 c.2 x), x), rfl, ⟨zs.up (by decide), hx.up (by decide)⟩, ?_⟩
      try simp only [st0, wipeP, List.set_cons_zero, List.set_cons_succ, List.map_cons, List.map_nil, List.cons_append, List.nil_append, List.replicate_succ, List.replicate_zero, List.length_cons, List.length_nil, Nat.reduceSub, Nat.reduceAdd]
      refine ⟨by simp [ckL, rdL, o3.at_], (j : Int), rfl, trivial, (nearS c.1 c.2 x, stP c), rfl, ⟨zn.up (by decide), z2.up (by decide)⟩, (sumR (p2.map stP), nearS c.1 c.2 x * stP c), rfl, ⟨z1.up (by decide), (zn.mul z2).up (by decide)⟩, lz rfl, ?_⟩
      have hl2 : (rowsP x j p2 0).length ≤ 6 := by
        have lenp : ∀ (l : List (Pt × Pt)) (b : Rat), (rowsP x j l b).length = l.length := by
          intro l
          induction l with
          | nil => exact fun _ => rfl
          | cons c l ih => exact fun b => by show (rowsP x j l _).length + 1 = _; rw [ih]; rfl
        rw [lenp]
        have h1 := congrArg List.length e2
        have h2 : (pcsW W j).length ≤ (lineW W j).length := pcs_len _
        have h3 := line_len hW hj
        simp only [List.length_append, List.length_cons] at h1
        omega
      refine app_w (ys := (pre.flatMap (rowsI W x) ++ rowsP x j (p2 ++ [c]) 0).map frs) o3.at_ (by rw [List.length_map, List.length_append]; exact Nat.lt_of_le_of_lt (show _ ≤ 100 by omega) (by decide)) ?_ ?_
      · rw [rowsP_snoc, ← List.append_assoc, List.map_append (l₂ := [_])]
        rfl
      intro S4 h4 h5
      refine ⟨(sumR (p2.map stP), stP c), rfl, ⟨z1.up (by decide), z2.up (by decide)⟩, ?_⟩
      have := hk2 S4 (o3.app h4 h5)
      rw [List.map_append, List.map_singleton, sumR_snoc] at this
      exact this
  intro S2 o2
  have o2 : Ow S a ((rowsW W x).map frs) S2 := o2
  refine ⟨trivial, ?_⟩
  have et : top S2 (.ref a) = .lst ((rowsW W x).map frs) := by simp [top, o2.at_]
  refine ⟨lz rfl, ⟨by rw [et]; exact okD_rows _, rfl⟩, ?_⟩
  show cnd (PyData.eqv (toD (top S2 (.ref a))) (toD (.lst []))) _ _
  rw [et, eqv_nilL]
  refine cnd_i (b := decide ((rowsW W x).map frs = [])) (fun e => ?_) (fun e => ?_)
  · have e : rowsW W x = [] := List.map_eq_nil_iff.mp (of_decide_eq_true e)
    unfold nearV at k
    rw [e] at k
    exact Out.less o2.sub k
  have e : rowsW W x ≠ [] := fun z => of_decide_eq_false e (by rw [z]; rfl)
  have hm : ∀ r ∈ rowsW W x, ∃ u v w, r = [u, v, w] ∧ Sz 1573 u ∧ Sz 16 v ∧ Sz 309 w := fun r hr => by
    obtain ⟨i, pre, c, post, hi, ep, er⟩ := rowsW_mem hr
    obtain ⟨z1, z2, z3⟩ := row_sz hW hs hx hi ep
    exact ⟨_, _, _, er, z1, z2, z3⟩
  refine ⟨(.ref a, rowsW W x), rfl, ⟨by simp [rdL, o2.at_], ⟨a, rfl⟩, e, fun r hr y hy => ?_⟩, ?_⟩
  · obtain ⟨u, v, w, rfl, z1, z2, z3⟩ := hm r hr
    simp only [List.mem_cons, List.not_mem_nil, or_false] at hy
    rcases hy with rfl | rfl | rfl
    · exact z1.up (by decide)
    · exact z2.up (by decide)
    · exact z3.up (by decide)
  rintro _ _ ⟨rfl, rfl⟩
  have hk : Q (rowV (leastL (rowsW W x))) S := by
    unfold nearV at k
    cases hq : rowsW W x with
    | nil => exact (e hq).elim
    | cons r rs => rw [hq] at k; exact k
  obtain ⟨u, v, w, el, _⟩ := hm _ (least_mem e fun r hr => by obtain ⟨u, v, w, er, _⟩ := hm r hr; exact ⟨u, [v, w], er⟩).1
  dsimp only
  rw [el] at hk ⊢
  exact ⟨lz rfl, Out.less o2.sub hk⟩

def sp_nearest_spot : PSp := SpF (fun (a : Web × Pt) => [webP a.1, pt a.2]) (fun a => (WebOk a.1 ∧ GdW a.1) ∧ SzP 90 a.2) fun a => nearV a.1 a.2
def b_nearest_spot : PFS :=
  gSeq (gDrop (fCall sp_need_web [] noE (fCons (fVar 0) (fNil))))
    (gSeq (gDrop (fCall sp_need_point [] noE (fCons (fVar 1) (fNil))))
    (gRet (fCall sp_nearest_by [] noE (fCons (fVar 0) (fCons (fVar 1) (fNil))))))
theorem len_nearest_spot : ∀ (xs : List Pv) (S : Sto) (Q : QV) (E : QE), sp_nearest_spot xs S Q E → xs.length = 2 := SpF.len fun _ => rfl
theorem mono_nearest_spot : ∀ (xs : List Pv) (S : Sto) (Q Q' : QV) (E E' : QE), (∀ p S', Q p S' → Q' p S') → (∀ C S', E C S' → E' C S') → sp_nearest_spot xs S Q E → sp_nearest_spot xs S Q' E' := SpF.mono
theorem ex_nearest_spot {xs : List Pv} {S0 : Sto} {Q : QV} {Ep : QE} : sp_nearest_spot xs S0 Q Ep → b_nearest_spot (endD Q) (st0 2 xs) S0 := SpF.ex fun ⟨W, x⟩ S Q ⟨⟨hW, hs⟩, hx⟩ k =>
  ⟨webP W, rfl, ⟨hW.sm, hW.q⟩, x, rfl, trivial, (W, x), rfl, ⟨hW, hs, hx⟩, Out.id k⟩

def sp__law_cell_at : PSp := SpF (fun (a : List Int × Nat) => [.scr (a.1.map .int), .int a.2]) (fun _ => True) fun a => .int (a.1.getD a.2 0)
def b__law_cell_at : PFS :=
  gSeq (gIf (fBV (f2 oLt (fVar 1) (fN oLen (fCons (fVar 0) (fNil))))) (gRet (f2 oIx (fVar 0) (fVar 1))) (gNext))
    (gRet (fC (.int 0)))
theorem len__law_cell_at : ∀ (xs : List Pv) (S : Sto) (Q : QV) (E : QE), sp__law_cell_at xs S Q E → xs.length = 2 := SpF.len fun _ => rfl
theorem mono__law_cell_at : ∀ (xs : List Pv) (S : Sto) (Q Q' : QV) (E E' : QE), (∀ p S', Q p S' → Q' p S') → (∀ C S', E C S' → E' C S') → sp__law_cell_at xs S Q E → sp__law_cell_at xs S Q' E' := SpF.mono
theorem ex__law_cell_at {xs : List Pv} {S0 : Sto} {Q : QV} {Ep : QE} : sp__law_cell_at xs S0 Q Ep → b__law_cell_at (endD Q) (st0 2 xs) S0 := SpF.ex fun ⟨ns, k⟩ S Q _ q => by
  have q : Q (.int (ns.getD k 0)) S := q
  refine cnd_i (b := decide ((k : Int) < ((ns.map Pv.int).length : Nat))) (fun e => ?_) fun e => ?_
  · have e : k < ns.length := by
      have e' : (k : Int) < ((ns.map Pv.int).length : Nat) := by simpa using e
      rw [List.length_map] at e'
      omega
    have ha : atI (ns.map Pv.int) (k : Int) = some (.int (ns.getD k 0)) := atI_nat (by
      rw [List.getElem?_map, List.getElem?_eq_getElem e, List.getD_eq_getElem?_getD, List.getElem?_eq_getElem e]; rfl)
    show match atI (ns.map Pv.int) (k : Int) with | some p => Out Q p S | none => False
    rw [ha]
    exact Out.id q
  · have e : ¬ k < ns.length := by
      have e' : ¬ (k : Int) < ((ns.map Pv.int).length : Nat) := by simpa using e
      rw [List.length_map] at e'
      omega
    rw [List.getD_eq_getElem?_getD, List.getElem?_eq_none (by omega)] at q
    exact Out.id q

def sp__law_state : PSp := SpS (fun (a : List Int × Nat) => [.scr (a.1.map .int), .int a.2]) (fun _ _ => True) fun _ S p S' => ∃ l m, S l = none ∧ St3 m ∧ p = .ref l ∧ S' = put S l m
def b__law_state : PFS :=
  gSeq (gSet 2 (fCall sp__law_cell_at [] noE (fCons (fVar 0) (fCons (fVar 1) (fNil)))))
    (gRet (fN oLstT (fCons (fN oMax (fCons (fC (.int 0)) (fCons (f2 oSub (fVar 2) (f2 oPow (fC (.int 10)) (fC (.int 18)))) (fNil)))) (fCons (f2 oAdd (f2 oMod (fVar 2) (fC (.int 2147483629))) (fC (.int 1))) (fCons (fC (.int 0)) (fNil))))))
theorem len__law_state : ∀ (xs : List Pv) (S : Sto) (Q : QV) (E : QE), sp__law_state xs S Q E → xs.length = 2 := SpS.len fun _ => rfl
theorem mono__law_state : ∀ (xs : List Pv) (S : Sto) (Q Q' : QV) (E E' : QE), (∀ p S', Q p S' → Q' p S') → (∀ C S', E C S' → E' C S') → sp__law_state xs S Q E → sp__law_state xs S Q' E' := SpS.mono
theorem ex__law_state {xs : List Pv} {S0 : Sto} {Q : QV} {Ep : QE} : sp__law_state xs S0 Q Ep → b__law_state (endD Q) (st0 3 xs) S0 := SpS.ex fun ⟨ns, k⟩ S Q _ q => by
  have hm := fmod_bd (i := ns.getD k 0) (j := 2147483629) (by decide)
  refine ⟨(ns, k), rfl, trivial, ⟨by decide, by decide, by decide⟩, by decide, lz rfl, fun l hl => Out.id (q _ _ ⟨l, _, hl, ⟨_, _, _, rfl, ?_, ?_, ?_⟩, rfl, rfl⟩)⟩
  · show 0 ≤ (if ns.getD k 0 - 10 ^ 18 > 0 then ns.getD k 0 - 10 ^ 18 else 0)
    split <;> omega
  · show 0 ≤ (ns.getD k 0).fmod 2147483629 + 1
    omega
  · show (ns.getD k 0).fmod 2147483629 + 1 < 2 ^ 40
    omega

def sp__law_choice : PSp := SpS (fun (a : Addr × Int) => [.ref a.1, .int a.2]) (fun a S => (∃ m, S a.1 = some m ∧ St3 m) ∧ 0 < a.2 ∧ a.2 < 2 ^ 64) fun a S p S' => ∃ r m, 0 ≤ r ∧ r < a.2 ∧ St3 m ∧ p = .int r ∧ S' = put S a.1 m
def b__law_choice : PFS :=
  gSeq (gIf (fBV (f2 oGt (f2 oIx (fVar 0) (fC (.int 0))) (fC (.int 0)))) (gSeq (gSet 2 (f2 oMod (f2 oIx (fVar 0) (fC (.int 0))) (fVar 1)))
    (gSeq (gSetIx (f2 oDiv (f2 oIx (fVar 0) (fC (.int 0))) (fVar 1)) (fVar 0) (fC (.int 0)))
    (gRet (fVar 2)))) (gNext))
    (gSeq (gSetIx (f2 oAdd (f2 oIx (fVar 0) (fC (.int 2))) (fC (.int 1))) (fVar 0) (fC (.int 2)))
    (gSeq (gSetIx (f2 oMod (f2 oAdd (f2 oAdd (f2 oMul (f2 oIx (fVar 0) (fC (.int 1))) (fC (.int 48271))) (fC (.int 29))) (f2 oIx (fVar 0) (fC (.int 2)))) (fC (.int 2147483647))) (fVar 0) (fC (.int 1)))
    (gSeq (gSet 3 (f2 oMod (f2 oAdd (f2 oAdd (f2 oMul (f2 oIx (fVar 0) (fC (.int 1))) (f2 oIx (fVar 0) (fC (.int 1)))) (f2 oMul (fC (.int 39373)) (f2 oIx (fVar 0) (fC (.int 1))))) (fC (.int 7))) (fC (.int 2147483629))))
    (gSeq (gSet 3 (f2 oMod (f2 oAdd (f2 oMul (fVar 3) (fVar 3)) (f2 oMul (fC (.int 50021)) (fVar 3))) (fC (.int 2147483587))))
    (gRet (f2 oMod (f2 oDiv (fVar 3) (fC (.int 8))) (fVar 1)))))))
theorem len__law_choice : ∀ (xs : List Pv) (S : Sto) (Q : QV) (E : QE), sp__law_choice xs S Q E → xs.length = 2 := SpS.len fun _ => rfl
theorem mono__law_choice : ∀ (xs : List Pv) (S : Sto) (Q Q' : QV) (E E' : QE), (∀ p S', Q p S' → Q' p S') → (∀ C S', E C S' → E' C S') → sp__law_choice xs S Q E → sp__law_choice xs S Q' E' := SpS.mono
theorem ex__law_choice {xs : List Pv} {S0 : Sto} {Q : QV} {Ep : QE} : sp__law_choice xs S0 Q Ep → b__law_choice (endD Q) (st0 4 xs) S0 := SpS.ex fun ⟨l, n⟩ S Q ⟨⟨m, hS, d, u, c, hm, hd, hu, hu2⟩, hn, hn2⟩ q => by
  subst hm
  have hS : S l = some (.lst [.int d, .int u, .int c]) := hS
  have hn : 0 < n := hn
  have hn2 : n < 2 ^ 64 := hn2
  have hl : n.natAbs.log2 < 9000 := log_lt (n := 64) (by unfold szI; omega) (by decide)
  simp only [b__law_choice, gSeq, gIf, gSet, gSetIx, gRet, gNext, fBV, f2, fVar, fC, oIx, oCmpI, rdL, oMod, oDiv, oAdd, oMul, oSetIx, st0, hS, put_same, put_put, at0, at1, at2, List.length_cons, List.length_nil, List.map_cons, List.map_nil, List.cons_append, List.nil_append, List.getElem?_cons_zero, List.getElem?_cons_succ, List.set_cons_zero, List.set_cons_succ, List.replicate]
  have hn0 : n ≠ 0 := by omega
  refine cnd_i (fun e => ⟨hn0, ⟨hn0, hl⟩, Out.id (q _ _ ⟨_, _, (fmod_bd hn).1, (fmod_bd hn).2, ⟨_, _, _, rfl, fdiv_nn hd hn, hu, hu2⟩, rfl, rfl⟩)⟩) fun e => ?_
  have h1 := fmod_bd (i := u * 48271 + 29 + (c + 1)) (j := 2147483647) (by decide)
  refine ⟨mulOk40 hu hu2 (by decide) (by decide), by decide, ?_⟩
  conv => whnf
  generalize (u * 48271 + 29 + (c + 1)).fmod 2147483647 = v at h1 ⊢
  have h2 := fmod_bd (i := v * v + 39373 * v + 7) (j := 2147483629) (by decide)
  refine ⟨mulOk40 h1.1 (by omega) h1.1 (by omega), mulOk40 (by decide) (by decide) h1.1 (by omega), by decide, ?_⟩
  conv => whnf
  generalize (v * v + 39373 * v + 7).fmod 2147483629 = x at h2 ⊢
  refine ⟨mulOk40 h2.1 (by omega) h2.1 (by omega), mulOk40 (by decide) (by decide) h2.1 (by omega), by decide, ⟨by decide, by decide +kernel⟩, hn0, Out.id (q _ _ ⟨_, _, (fmod_bd hn).1, (fmod_bd hn).2, ⟨d, v, c + 1, rfl, hd, h1.1, by omega⟩, rfl, rfl⟩)⟩

def sp__law_low : PSp := SpF (fun (a : Int × Int) => [.int a.1, .int a.2]) (fun a => a.2 ≠ 0 ∧ szI 8000 a.1 ∧ szI 8000 a.2) fun a => fr (Rat.divInt a.1 a.2)
def b__law_low : PFS :=
  gSeq (gPar 2 3 (fCons (fN oAbs (fCons (fVar 0) (fNil))) (fCons (fN oAbs (fCons (fVar 1) (fNil))) (fNil))))
    (gSeq (gWhile (fBV (f2 oGt (fVar 3) (fC (.int 0)))) (gPar 2 3 (fCons (fVar 3) (fCons (f2 oMod (fVar 2) (fVar 3)) (fNil)))))
    (gSeq (gSet 4 (fIf (fBV (f2 oGt (fVar 1) (fC (.int 0)))) (fVar 2) (f2 oSub (fC (.int 0)) (fVar 2))))
    (gRet (fN oTup (fCons (f2 oDiv (fVar 0) (fVar 4)) (fCons (f2 oDiv (fVar 1) (fVar 4)) (fNil)))))))
theorem len__law_low : ∀ (xs : List Pv) (S : Sto) (Q : QV) (E : QE), sp__law_low xs S Q E → xs.length = 2 := SpF.len fun _ => rfl
theorem mono__law_low : ∀ (xs : List Pv) (S : Sto) (Q Q' : QV) (E E' : QE), (∀ p S', Q p S' → Q' p S') → (∀ C S', E C S' → E' C S') → sp__law_low xs S Q E → sp__law_low xs S Q' E' := SpF.mono
theorem ex__law_low {xs : List Pv} {S0 : Sto} {Q : QV} {Ep : QE} : sp__law_low xs S0 Q Ep → b__law_low (endD Q) (st0 5 xs) S0 := SpF.ex fun ⟨t, b⟩ S Q ⟨hb, ht, hbb⟩ q => by
  have hb : b ≠ 0 := hb
  have hbb : szI 8000 b := hbb
  obtain ⟨e1, e2⟩ := low_num (t := t) hb
  have hg0 : Int.gcd t b ≠ 0 := by
    have := Int.gcd_pos_of_ne_zero_right t hb
    omega
  have hgs : szI 8000 (Int.gcd t b : Int) := by
    unfold szI at *
    have h1 : Int.gcd t b ≤ b.natAbs := Nat.le_of_dvd (by omega) (Nat.gcd_dvd_right t.natAbs b.natAbs)
    simp only [Int.natAbs_natCast]
    omega
  refine ⟨fun m ρ S' => ∃ x y : Nat, ρ = [some (.int t), some (.int b), some (.int x), some (.int y), none] ∧ S' = S ∧ Nat.gcd x y = Int.gcd t b ∧ m = y, ⟨b.natAbs, t.natAbs, b.natAbs, by simp only [absP]; rfl, rfl, rfl, rfl⟩, ?_⟩
  rintro m ρ S' ⟨x, y, rfl, rfl, hg, rfl⟩
  refine cnd_i (b := decide ((0 : Int) < m)) (fun h => ?_) fun h => ?_
  · have hm : m ≠ 0 := by
      rintro rfl
      simp at h
    refine ⟨by show (m : Int) ≠ 0; omega, x % m, Nat.mod_lt _ (by omega), m, x % m, ?_, rfl, ?_, rfl⟩
    · rw [fmod_nat]; rfl
    · rw [← hg, Nat.gcd_comm x m, Nat.gcd_rec m x, Nat.gcd_comm]
  · have hm : m = 0 := by
      have h' : ¬ (0 : Int) < m := by simpa using h
      omega
    subst hm
    rw [Nat.gcd_zero_right] at hg
    subst hg
    refine cnd_i (b := decide (0 < b)) (fun h => ?_) fun h => ?_
    · have h : ¬ b < 0 := by
        have : 0 < b := by simpa using h
        omega
      rw [if_neg h] at e1 e2
      have hl : (Int.gcd t b : Int).natAbs.log2 < 9000 := log_lt hgs (by decide)
      refine ⟨⟨by show (Int.gcd t b : Int) ≠ 0; omega, hl⟩, ⟨by show (Int.gcd t b : Int) ≠ 0; omega, hl⟩, lz rfl, Out.id ?_⟩
      show Q (.tup [.int (t.fdiv (Int.gcd t b : Int)), .int (b.fdiv (Int.gcd t b : Int))]) S'
      rw [e1, e2]
      exact q
    · have h : b < 0 := by
        have : ¬ 0 < b := by simpa using h
        omega
      rw [if_pos h] at e1 e2
      have hl : (0 - (Int.gcd t b : Int)).natAbs.log2 < 9000 := log_lt (n := 8001) ((szI.sub (n := 0) (show (0 : Int).natAbs < 2 ^ 0 by decide) hgs).up (by decide)) (by decide)
      refine ⟨⟨by show 0 - (Int.gcd t b : Int) ≠ 0; omega, hl⟩, ⟨by show 0 - (Int.gcd t b : Int) ≠ 0; omega, hl⟩, lz rfl, Out.id ?_⟩
      show Q (.tup [.int (t.fdiv (0 - (Int.gcd t b : Int))), .int (b.fdiv (0 - (Int.gcd t b : Int)))]) S'
      rw [e1, e2]
      exact q

def sp__law_plus : PSp := SpF (fun (a : Rat × Rat) => [fr a.1, fr a.2]) (fun a => Sz 3900 a.1 ∧ Sz 3900 a.2) (fun a => fr (a.1 + a.2))
def b__law_plus : PFS :=
  gRet (fCall sp__law_low [] noE (fCons (f2 oAdd (f2 oMul (f2 oIx (fVar 0) (fC (.int 0))) (f2 oIx (fVar 1) (fC (.int 1)))) (f2 oMul (f2 oIx (fVar 1) (fC (.int 0))) (f2 oIx (fVar 0) (fC (.int 1))))) (fCons (f2 oMul (f2 oIx (fVar 0) (fC (.int 1))) (f2 oIx (fVar 1) (fC (.int 1)))) (fNil))))
theorem len__law_plus : ∀ (xs : List Pv) (S : Sto) (Q : QV) (E : QE), sp__law_plus xs S Q E → xs.length = 2 := SpF.len fun _ => rfl
theorem mono__law_plus : ∀ (xs : List Pv) (S : Sto) (Q Q' : QV) (E E' : QE), (∀ p S', Q p S' → Q' p S') → (∀ C S', E C S' → E' C S') → sp__law_plus xs S Q E → sp__law_plus xs S Q' E' := SpF.mono
theorem ex__law_plus {xs : List Pv} {S0 : Sto} {Q : QV} {Ep : QE} : sp__law_plus xs S0 Q Ep → b__law_plus (endD Q) (st0 2 xs) S0 := SpF.ex fun ⟨p, q⟩ S Q ⟨hp, hq⟩ k =>
  ⟨mulOk hp.1 hq.2 (by decide), mulOk hq.1 hp.2 (by decide), mulOk hp.2 hq.2 (by decide), (_, _), rfl, ⟨den2_ne p q, ((hp.1.mul hq.2).add (hq.1.mul hp.2)).up (by decide), (hp.2.mul hq.2).up (by decide)⟩, Out.id (by
    have k : Q (fr (p + q)) S := k
    rw [add_eq] at k
    exact k)⟩

def sp__law_minus : PSp := SpF (fun (a : Rat × Rat) => [fr a.1, fr a.2]) (fun a => Sz 3900 a.1 ∧ Sz 3900 a.2) (fun a => fr (a.1 - a.2))
def b__law_minus : PFS :=
  gRet (fCall sp__law_low [] noE (fCons (f2 oSub (f2 oMul (f2 oIx (fVar 0) (fC (.int 0))) (f2 oIx (fVar 1) (fC (.int 1)))) (f2 oMul (f2 oIx (fVar 1) (fC (.int 0))) (f2 oIx (fVar 0) (fC (.int 1))))) (fCons (f2 oMul (f2 oIx (fVar 0) (fC (.int 1))) (f2 oIx (fVar 1) (fC (.int 1)))) (fNil))))
theorem len__law_minus : ∀ (xs : List Pv) (S : Sto) (Q : QV) (E : QE), sp__law_minus xs S Q E → xs.length = 2 := SpF.len fun _ => rfl
theorem mono__law_minus : ∀ (xs : List Pv) (S : Sto) (Q Q' : QV) (E E' : QE), (∀ p S', Q p S' → Q' p S') → (∀ C S', E C S' → E' C S') → sp__law_minus xs S Q E → sp__law_minus xs S Q' E' := SpF.mono
theorem ex__law_minus {xs : List Pv} {S0 : Sto} {Q : QV} {Ep : QE} : sp__law_minus xs S0 Q Ep → b__law_minus (endD Q) (st0 2 xs) S0 := SpF.ex fun ⟨p, q⟩ S Q ⟨hp, hq⟩ k =>
  ⟨mulOk hp.1 hq.2 (by decide), mulOk hq.1 hp.2 (by decide), mulOk hp.2 hq.2 (by decide), (_, _), rfl, ⟨den2_ne p q, ((hp.1.mul hq.2).sub (hq.1.mul hp.2)).up (by decide), (hp.2.mul hq.2).up (by decide)⟩, Out.id (by
    have k : Q (fr (p - q)) S := k
    rw [sub_eq] at k
    exact k)⟩

def sp__law_times : PSp := SpF (fun (a : Rat × Rat) => [fr a.1, fr a.2]) (fun a => Sz 3900 a.1 ∧ Sz 3900 a.2) (fun a => fr (a.1 * a.2))
def b__law_times : PFS :=
  gRet (fCall sp__law_low [] noE (fCons (f2 oMul (f2 oIx (fVar 0) (fC (.int 0))) (f2 oIx (fVar 1) (fC (.int 0)))) (fCons (f2 oMul (f2 oIx (fVar 0) (fC (.int 1))) (f2 oIx (fVar 1) (fC (.int 1)))) (fNil))))
theorem len__law_times : ∀ (xs : List Pv) (S : Sto) (Q : QV) (E : QE), sp__law_times xs S Q E → xs.length = 2 := SpF.len fun _ => rfl
theorem mono__law_times : ∀ (xs : List Pv) (S : Sto) (Q Q' : QV) (E E' : QE), (∀ p S', Q p S' → Q' p S') → (∀ C S', E C S' → E' C S') → sp__law_times xs S Q E → sp__law_times xs S Q' E' := SpF.mono
theorem ex__law_times {xs : List Pv} {S0 : Sto} {Q : QV} {Ep : QE} : sp__law_times xs S0 Q Ep → b__law_times (endD Q) (st0 2 xs) S0 := SpF.ex fun ⟨p, q⟩ S Q ⟨hp, hq⟩ k =>
  ⟨mulOk hp.1 hq.1 (by decide), mulOk hp.2 hq.2 (by decide), (_, _), rfl, ⟨den2_ne p q, (hp.1.mul hq.1).up (by decide), (hp.2.mul hq.2).up (by decide)⟩, Out.id (by
    have k : Q (fr (p * q)) S := k
    rw [mul_eq] at k
    exact k)⟩

def sp__law_over : PSp := SpF (fun (a : Rat × Rat) => [fr a.1, fr a.2]) (fun a => Sz 3900 a.1 ∧ Sz 3900 a.2 ∧ a.2 ≠ 0) (fun a => fr (a.1 / a.2))
def b__law_over : PFS :=
  gRet (fCall sp__law_low [] noE (fCons (f2 oMul (f2 oIx (fVar 0) (fC (.int 0))) (f2 oIx (fVar 1) (fC (.int 1)))) (fCons (f2 oMul (f2 oIx (fVar 0) (fC (.int 1))) (f2 oIx (fVar 1) (fC (.int 0)))) (fNil))))
theorem len__law_over : ∀ (xs : List Pv) (S : Sto) (Q : QV) (E : QE), sp__law_over xs S Q E → xs.length = 2 := SpF.len fun _ => rfl
theorem mono__law_over : ∀ (xs : List Pv) (S : Sto) (Q Q' : QV) (E E' : QE), (∀ p S', Q p S' → Q' p S') → (∀ C S', E C S' → E' C S') → sp__law_over xs S Q E → sp__law_over xs S Q' E' := SpF.mono
theorem ex__law_over {xs : List Pv} {S0 : Sto} {Q : QV} {Ep : QE} : sp__law_over xs S0 Q Ep → b__law_over (endD Q) (st0 2 xs) S0 := SpF.ex fun ⟨p, q⟩ S Q ⟨hp, hq, hz⟩ k => by
  have hn : q.num ≠ 0 := fun e => hz (Rat.num_eq_zero.mp e)
  refine ⟨mulOk hp.1 hq.2 (by decide), mulOk hp.2 hq.1 (by decide), (_, _), rfl, ⟨Int.mul_ne_zero (den_ne p) hn, (hp.1.mul hq.2).up (by decide), (hp.2.mul hq.1).up (by decide)⟩, Out.id ?_⟩
  have k : Q (fr (p / q)) S := k
  rw [div_eq] at k
  exact k

def sp__law_less : PSp := SpF (fun (a : Rat × Rat) => [fr a.1, fr a.2]) (fun a => Sz 3900 a.1 ∧ Sz 3900 a.2) (fun a => .bl (decide (a.1 < a.2)))
def b__law_less : PFS :=
  gRet (f2 oLt (f2 oMul (f2 oIx (fVar 0) (fC (.int 0))) (f2 oIx (fVar 1) (fC (.int 1)))) (f2 oMul (f2 oIx (fVar 1) (fC (.int 0))) (f2 oIx (fVar 0) (fC (.int 1)))))
theorem len__law_less : ∀ (xs : List Pv) (S : Sto) (Q : QV) (E : QE), sp__law_less xs S Q E → xs.length = 2 := SpF.len fun _ => rfl
theorem mono__law_less : ∀ (xs : List Pv) (S : Sto) (Q Q' : QV) (E E' : QE), (∀ p S', Q p S' → Q' p S') → (∀ C S', E C S' → E' C S') → sp__law_less xs S Q E → sp__law_less xs S Q' E' := SpF.mono
theorem ex__law_less {xs : List Pv} {S0 : Sto} {Q : QV} {Ep : QE} : sp__law_less xs S0 Q Ep → b__law_less (endD Q) (st0 2 xs) S0 := SpF.ex fun ⟨p, q⟩ S Q ⟨hp, hq⟩ k => ⟨mulOk hp.1 hq.2 (by decide), mulOk hq.1 hp.2 (by decide), Out.id (by
    have k : Q (.bl (decide (p < q))) S := k
    rw [decide_eq_decide.mpr (Rat.lt_iff p q)] at k
    exact k)⟩

def sp__law_amount : PSp := SpF (fun (a : Rat) => [fr a]) (fun _ => True) (fun a => fr (absR a))
def b__law_amount : PFS :=
  gRet (fN oTup (fCons (fN oAbs (fCons (f2 oIx (fVar 0) (fC (.int 0))) (fNil))) (fCons (f2 oIx (fVar 0) (fC (.int 1))) (fNil))))
theorem len__law_amount : ∀ (xs : List Pv) (S : Sto) (Q : QV) (E : QE), sp__law_amount xs S Q E → xs.length = 1 := SpF.len fun _ => rfl
theorem mono__law_amount : ∀ (xs : List Pv) (S : Sto) (Q Q' : QV) (E E' : QE), (∀ p S', Q p S' → Q' p S') → (∀ C S', E C S' → E' C S') → sp__law_amount xs S Q E → sp__law_amount xs S Q' E' := SpF.mono
theorem ex__law_amount {xs : List Pv} {S0 : Sto} {Q : QV} {Ep : QE} : sp__law_amount xs S0 Q Ep → b__law_amount (endD Q) (st0 1 xs) S0 := SpF.ex fun p S Q _ k => ⟨lz rfl, Out.id (by
    have k : Q (fr (absR p)) S := k
    have e : fr (absR p) = .tup [.int (if p.num < 0 then -p.num else p.num), .int (p.den : Int)] := by rw [fr_abs, absP]
    rw [e] at k
    exact k)⟩

def sp__law_any : PSp := SpS (fun (a : Addr) => [.ref a]) (fun a S => ∃ m, S a = some m ∧ St3 m) fun a S p S' => ∃ q m, Sz 40 q ∧ St3 m ∧ p = fr q ∧ S' = put S a m
def b__law_any : PFS :=
  gSeq (gSet 1 (fCall sp__law_choice [] noE (fCons (fVar 0) (fCons (f2 oIx (fN oLst (fCons (fC (.int 7)) (fCons (fC (.int 200)) (fCons (f2 oPow (fC (.int 10)) (fC (.int 9))) (fNil))))) (fCall sp__law_choice [] noE (fCons (fVar 0) (fCons (fC (.int 3)) (fNil))))) (fNil)))))
    (gSeq (gSet 2 (f2 oIx (fN oLst (fCons (fC (.int 1)) (fCons (fC (.int 2)) (fCons (fC (.int 3)) (fCons (fC (.int 7)) (fCons (fC (.int 12)) (fCons (f2 oAdd (f2 oPow (fC (.int 10)) (fC (.int 6))) (fC (.int 3))) (fNil)))))))) (fCall sp__law_choice [] noE (fCons (fVar 0) (fCons (fC (.int 6)) (fNil))))))
    (gRet (fCall sp__law_low [] noE (fCons (f2 oMul (fVar 1) (f2 oIx (fN oLst (fCons (fC (.int 1)) (fCons (f1 oNeg (fC (.int 1))) (fNil)))) (fCall sp__law_choice [] noE (fCons (fVar 0) (fCons (fC (.int 2)) (fNil)))))) (fCons (fVar 2) (fNil))))))
theorem len__law_any : ∀ (xs : List Pv) (S : Sto) (Q : QV) (E : QE), sp__law_any xs S Q E → xs.length = 1 := SpS.len fun _ => rfl
theorem mono__law_any : ∀ (xs : List Pv) (S : Sto) (Q Q' : QV) (E E' : QE), (∀ p S', Q p S' → Q' p S') → (∀ C S', E C S' → E' C S') → sp__law_any xs S Q E → sp__law_any xs S Q' E' := SpS.mono
theorem ex__law_any {xs : List Pv} {S0 : Sto} {Q : QV} {Ep : QE} : sp__law_any xs S0 Q Ep → b__law_any (endD Q) (st0 3 xs) S0 := SpS.ex fun l S Q hm q => by
  have hm : ∃ m, S l = some m ∧ St3 m := hm
  refine ⟨⟨by decide, by decide, by decide⟩, lz rfl, (l, 3), rfl, ⟨hm, (by decide : (0 : Int) < 3), (by decide : (3 : Int) < 2 ^ 64)⟩, ?_⟩
  rintro _ _ ⟨r, m1, r0, r3, s1, rfl, rfl⟩
  have r3 : r < 3 := r3
  obtain ⟨n, e, n0, n1⟩ := at_ints (ns := [7, 200, 10 ^ 9]) (r := r) (P := fun n => 0 < n ∧ n ≤ 10 ^ 9) r0 (by simpa using r3) (by decide)
  show match atI ([7, 200, 10 ^ 9].map Pv.int) r with | some p => _ | none => False
  rw [e]
  refine ⟨(l, n), rfl, ⟨⟨_, put_same, s1⟩, n0, show n < 2 ^ 64 by omega⟩, ?_⟩
  rintro _ _ ⟨t, m2, t0, t1, s2, rfl, rfl⟩
  have t1 : t < n := t1
  refine ⟨⟨by decide, by decide, by decide⟩, lz rfl, (l, 6), rfl, ⟨⟨_, put_same, s2⟩, (by decide : (0 : Int) < 6), (by decide : (6 : Int) < 2 ^ 64)⟩, ?_⟩
  rintro _ _ ⟨r', m3, r0', r6, s3, rfl, rfl⟩
  have r6 : r' < 6 := r6
  obtain ⟨b, e', b0, b1⟩ := at_ints (ns := [1, 2, 3, 7, 12, 10 ^ 6 + 3]) (r := r') (P := fun n => 0 < n ∧ n ≤ 10 ^ 9) r0' (by simpa using r6) (by decide)
  show match atI ([1, 2, 3, 7, 12, 10 ^ 6 + 3].map Pv.int) r' with | some p => _ | none => False
  rw [e']
  refine ⟨lz rfl, (l, 2), rfl, ⟨⟨_, put_same, s3⟩, (by decide : (0 : Int) < 2), (by decide : (2 : Int) < 2 ^ 64)⟩, ?_⟩
  rintro _ _ ⟨r'', m4, r0'', r2, s4, rfl, rfl⟩
  have r2 : r'' < 2 := r2
  obtain ⟨g, e'', g1⟩ := at_ints (ns := [1, -1]) (r := r'') (P := fun n => n = 1 ∨ n = -1) r0'' (by simpa using r2) (by decide)
  show match atI ([1, -1].map Pv.int) r'' with | some p => _ | none => False
  rw [e'']
  have st : szI 32 t := by unfold szI; omega
  have sg : szI 1 g := by unfold szI; rcases g1 with rfl | rfl <;> decide
  have sb : szI 40 b := by unfold szI; omega
  have stg : szI 40 (t * g) := (st.mul sg).up (by decide)
  refine ⟨mulOk st sg (by decide), (t * g, b), rfl, ⟨show b ≠ 0 by omega, stg.up (by decide), sb.up (by decide)⟩, Out.less (S' := put S l m4) ?_ (q _ _ ⟨_, m4, divInt_sz (show b ≠ 0 by omega) stg sb, s4, rfl, rfl⟩)⟩
  simp only [put_put]
  exact Sub.refl _

def sp__law_any_point : PSp := SpS (fun (a : Addr) => [.ref a]) (fun a S => ∃ m, S a = some m ∧ St3 m) fun a S p S' => ∃ q m, (Sz 40 q.1 ∧ Sz 40 q.2) ∧ St3 m ∧ p = pt q ∧ S' = put S a m
def b__law_any_point : PFS :=
  gRet (fN oTup (fCons (fCall sp__law_any [] noE (fCons (fVar 0) (fNil))) (fCons (fCall sp__law_any [] noE (fCons (fVar 0) (fNil))) (fNil))))
theorem len__law_any_point : ∀ (xs : List Pv) (S : Sto) (Q : QV) (E : QE), sp__law_any_point xs S Q E → xs.length = 1 := SpS.len fun _ => rfl
theorem mono__law_any_point : ∀ (xs : List Pv) (S : Sto) (Q Q' : QV) (E E' : QE), (∀ p S', Q p S' → Q' p S') → (∀ C S', E C S' → E' C S') → sp__law_any_point xs S Q E → sp__law_any_point xs S Q' E' := SpS.mono
theorem ex__law_any_point {xs : List Pv} {S0 : Sto} {Q : QV} {Ep : QE} : sp__law_any_point xs S0 Q Ep → b__law_any_point (endD Q) (st0 1 xs) S0 := SpS.ex fun l S Q hm q => by
  refine ⟨l, rfl, hm, ?_⟩
  rintro _ _ ⟨x, m1, hx, s1, rfl, rfl⟩
  refine ⟨l, rfl, ⟨_, put_same, s1⟩, ?_⟩
  rintro _ _ ⟨y, m2, hy, s2, rfl, rfl⟩
  refine ⟨lz rfl, Out.id (q _ _ ⟨(x, y), m2, ⟨hx, hy⟩, s2, rfl, ?_⟩)⟩
  simp only [put_put]

theorem gd_of {t b : Int} (hb : b = 1 ∨ b = 2 ∨ b = 3 ∨ b = 8) (h0 : 0 ≤ t) (h : t < 64 * b) : Gd 1536 (Rat.divInt t b) := by
  rcases hb with rfl | rfl | rfl | rfl
  · exact Gd.of (c := 24) (by decide) (by decide) (by omega)
  · exact Gd.of (c := 12) (by decide) (by decide) (by omega)
  · exact Gd.of (c := 8) (by decide) (by decide) (by omega)
  · exact Gd.of (c := 3) (by decide) (by decide) (by omega)
def sp__law_land_number : PSp := SpS (fun (a : Addr) => [.ref a]) (fun a S => ∃ m, S a = some m ∧ St3 m) fun a S p S' => ∃ q m, Gd 1536 q ∧ inL q ∧ St3 m ∧ p = fr q ∧ S' = put S a m
def b__law_land_number : PFS :=
  gSeq (gSet 1 (f2 oIx (fN oLst (fCons (fC (.int 1)) (fCons (fC (.int 1)) (fCons (fC (.int 1)) (fCons (fC (.int 2)) (fCons (fC (.int 3)) (fCons (fC (.int 8)) (fNil)))))))) (fCall sp__law_choice [] noE (fCons (fVar 0) (fCons (fC (.int 6)) (fNil))))))
    (gRet (fCall sp__law_low [] noE (fCons (fCall sp__law_choice [] noE (fCons (fVar 0) (fCons (f2 oMul (fC (.int 64)) (fVar 1)) (fNil)))) (fCons (fVar 1) (fNil)))))
theorem len__law_land_number : ∀ (xs : List Pv) (S : Sto) (Q : QV) (E : QE), sp__law_land_number xs S Q E → xs.length = 1 := SpS.len fun _ => rfl
theorem mono__law_land_number : ∀ (xs : List Pv) (S : Sto) (Q Q' : QV) (E E' : QE), (∀ p S', Q p S' → Q' p S') → (∀ C S', E C S' → E' C S') → sp__law_land_number xs S Q E → sp__law_land_number xs S Q' E' := SpS.mono
theorem ex__law_land_number {xs : List Pv} {S0 : Sto} {Q : QV} {Ep : QE} : sp__law_land_number xs S0 Q Ep → b__law_land_number (endD Q) (st0 2 xs) S0 := SpS.ex fun l S Q hm q => by
  refine ⟨lz rfl, (l, 6), rfl, ⟨hm, (by decide : (0 : Int) < 6), (by decide : (6 : Int) < 2 ^ 64)⟩, ?_⟩
  rintro _ _ ⟨r, m1, r0, r1, s1, rfl, rfl⟩
  have r1 : r < 6 := r1
  obtain ⟨b, e, ⟨b0, b1⟩, b2⟩ := at_ints (ns := [1, 1, 1, 2, 3, 8]) (r := r) (P := fun n => (0 < n ∧ n ≤ 8) ∧ (n = 1 ∨ n = 2 ∨ n = 3 ∨ n = 8)) r0 (by simpa using r1) (by decide)
  show match atI ([1, 1, 1, 2, 3, 8].map Pv.int) r with | some p => _ | none => False
  rw [e]
  have sb : szI 4 b := by unfold szI; omega
  refine ⟨mulOk (n := 7) (by unfold szI; decide) sb (by decide), (l, 64 * b), rfl, ⟨⟨_, put_same, s1⟩, show (0 : Int) < 64 * b by omega, show 64 * b < 2 ^ 64 by omega⟩, ?_⟩
  rintro _ _ ⟨t, m2, t0, t1, s2, rfl, rfl⟩
  have t1 : t < 64 * b := t1
  have st : szI 10 t := by unfold szI; omega
  refine ⟨(t, b), rfl, ⟨show b ≠ 0 by omega, st.up (by decide), sb.up (by decide)⟩, Out.less (S' := put S l m2) ?_ (q _ _ ⟨_, m2, gd_of b2 t0 t1, ?_, s2, rfl, rfl⟩)⟩
  · simp only [put_put]
    exact Sub.refl _
  · exact low_in b0 t0 t1

def sp__law_land_point : PSp := SpS (fun (a : Addr) => [.ref a]) (fun a S => ∃ m, S a = some m ∧ St3 m) fun a S p S' => ∃ q m, GdP 1536 q ∧ inLand q ∧ St3 m ∧ p = pt q ∧ S' = put S a m
def b__law_land_point : PFS :=
  gRet (fN oTup (fCons (fCall sp__law_land_number [] noE (fCons (fVar 0) (fNil))) (fCons (fCall sp__law_land_number [] noE (fCons (fVar 0) (fNil))) (fNil))))
theorem len__law_land_point : ∀ (xs : List Pv) (S : Sto) (Q : QV) (E : QE), sp__law_land_point xs S Q E → xs.length = 1 := SpS.len fun _ => rfl
theorem mono__law_land_point : ∀ (xs : List Pv) (S : Sto) (Q Q' : QV) (E E' : QE), (∀ p S', Q p S' → Q' p S') → (∀ C S', E C S' → E' C S') → sp__law_land_point xs S Q E → sp__law_land_point xs S Q' E' := SpS.mono
theorem ex__law_land_point {xs : List Pv} {S0 : Sto} {Q : QV} {Ep : QE} : sp__law_land_point xs S0 Q Ep → b__law_land_point (endD Q) (st0 1 xs) S0 := SpS.ex fun l S Q hm q => by
  refine ⟨l, rfl, hm, ?_⟩
  rintro _ _ ⟨x, m1, hx, ix, s1, rfl, rfl⟩
  refine ⟨l, rfl, ⟨_, put_same, s1⟩, ?_⟩
  rintro _ _ ⟨y, m2, hy, iy, s2, rfl, rfl⟩
  refine ⟨lz rfl, Out.id (q _ _ ⟨(x, y), m2, ⟨hx, hy⟩, ⟨ix, iy⟩, s2, rfl, ?_⟩)⟩
  simp only [put_put]

def sp__law_web : PSp := SpS (fun (a : Addr) => [.ref a]) (fun a S => ∃ m, S a = some m ∧ St3 m) fun a S p S' => ∃ W m, WebD W ∧ St3 m ∧ p = webP W ∧ S' = put S a m
def b__law_web : PFS :=
  gSeq (gSet 1 (fN oLstT (fNil)))
    (gSeq (gBeg [2, 3] (gFor (fRng1 (fCons (f2 oAdd (fC (.int 2)) (fCall sp__law_choice [] noE (fCons (fVar 0) (fCons (fC (.int 5)) (fNil))))) (fNil))) (.nm 2) (gEnd [2, 3] (gSeq (gSet 3 (fCall sp__law_land_point [] noE (fCons (fVar 0) (fNil))))
    (gIf (fBV (f2 (oIn true) (fVar 3) (fVar 1))) (gDrop (fMeth ckL oAppend (fVar 1) (fCons (fVar 3) (fNil)))) (gNext))))))
    (gSeq (gSet 4 (fN oLstT (fNil)))
    (gSeq (gBeg [2, 3, 5, 6, 7, 8] (gFor (fRng1 (fCons (f2 oMul (fCall sp__law_choice [] noE (fCons (fVar 0) (fCons (fC (.int 7)) (fNil)))) (fN oInt (fCons (f2 oGt (fN oLen (fCons (fVar 1) (fNil))) (fC (.int 1))) (fNil)))) (fNil))) (.nm 2) (gEnd [2, 3, 5, 6, 7, 8] (gSeq (gSet 5 (fCall sp__law_choice [] noE (fCons (fVar 0) (fCons (fN oLen (fCons (fVar 1) (fNil))) (fNil)))))
    (gSeq (gSet 6 (f2 oMod (f2 oAdd (f2 oAdd (fVar 5) (fC (.int 1))) (fCall sp__law_choice [] noE (fCons (fVar 0) (fCons (f2 oSub (fN oLen (fCons (fVar 1) (fNil))) (fC (.int 1))) (fNil))))) (fN oLen (fCons (fVar 1) (fNil)))))
    (gSeq (gSet 7 (fN oLstT (fCons (f2 oIx (fVar 1) (fVar 5)) (fNil))))
    (gSeq (gBeg [3, 8] (gFor (fRng1 (fCons (fCall sp__law_choice [] noE (fCons (fVar 0) (fCons (fC (.int 3)) (fNil)))) (fNil))) (.nm 8) (gEnd [3, 8] (gSeq (gSet 3 (fCall sp__law_land_point [] noE (fCons (fVar 0) (fNil))))
    (gIf (fBV (f2 (oIn true) (fVar 3) (fN oLst (fCons (f2 oIx (fVar 7) (f1 oNeg (fC (.int 1)))) (fCons (f2 oIx (fVar 1) (fVar 6)) (fNil)))))) (gDrop (fMeth ckL oAppend (fVar 7) (fCons (fVar 3) (fNil)))) (gNext))))))
    (gDrop (fMeth ckL oAppend (fVar 4) (fCons (fN oTup (fCons (fVar 5) (fCons (fVar 6) (fCons (fN oTuple (fCons (fSl (fVar 7) (fPart (fC (.int 1))) (fNoPart)) (fNil))) (fCons (f2 oAdd (fC (.int 1)) (fCall sp__law_choice [] noE (fCons (fVar 0) (fCons (fC (.int 2)) (fNil))))) (fNil)))))) (fNil)))))))))))
    (gRet (fN oTup (fCons (fN oTuple (fCons (fVar 1) (fNil))) (fCons (fN oTuple (fCons (fVar 4) (fNil))) (fNil))))))))
theorem len__law_web : ∀ (xs : List Pv) (S : Sto) (Q : QV) (E : QE), sp__law_web xs S Q E → xs.length = 1 := SpS.len fun _ => rfl
theorem mono__law_web : ∀ (xs : List Pv) (S : Sto) (Q Q' : QV) (E E' : QE), (∀ p S', Q p S' → Q' p S') → (∀ C S', E C S' → E' C S') → sp__law_web xs S Q E → sp__law_web xs S Q' E' := SpS.mono
theorem rng_nat (n : Int) : rngP 0 n = (List.range n.toNat).map fun (j : Nat) => .int ((0 : Int) + j) := by unfold rngP; rw [Int.sub_zero]
set_option maxHeartbeats 2000000 in
theorem ex__law_web {xs : List Pv} {S0 : Sto} {Q : QV} {Ep : QE} : sp__law_web xs S0 Q Ep → b__law_web (endD Q) (st0 9 xs) S0 := SpS.ex fun l S Q hm q => by
  refine ⟨lz rfl, fun a ha => ?_⟩
  have k0 := Pk.of hm
  have hal := k0.ne ha
  have haS := k0.ne' ha
  have k1 := k0.alloc (x := .lst []) ha
  refine ⟨(l, 5), rfl, ⟨k1.pen, (by decide : (0 : Int) < 5), (by decide : (5 : Int) < 2 ^ 64)⟩, ?_⟩
  rintro _ _ ⟨n, m1, n0, n1, s1, rfl, rfl⟩
  have n1 : n < 5 := n1
  have k2 := k1.draw s1
  have hA2 : put (put S a (.lst [])) l m1 a = some (.lst (([] : List Pt).map pt)) := by rw [put_ne hal]; exact put_same
  refine ⟨⟨by omega, by omega⟩, ?_⟩
  try simp only [st0, wipeP, List.set_cons_zero, List.set_cons_succ, List.map_cons, List.map_nil, List.cons_append, List.nil_append, List.replicate_succ, List.replicate_zero, List.length_cons, List.length_nil, Nat.reduceSub, Nat.reduceAdd]
  show forW _ _ _ _ (rngP 0 (2 + n)) _ (put (put S a (.lst [])) l m1)
  generalize put (put S a (.lst [])) l m1 = S2 at k2 hA2 ⊢
  rw [rng_nat]
  refine forW_a (fun (j : Nat) => .int ((0 : Int) + j)) (List.range (2 + n).toNat) (fun _ => [some (.ref l), some (.ref a), none, none, none, none, none, none, none]) (fun pre S3 => Pk St3 S l S3 ∧ ∃ cs : List Pt, S3 a = some (.lst (cs.map pt)) ∧ cs.Nodup ∧ (∀ p ∈ cs, inLand p ∧ GdP 1536 p) ∧ cs.length ≤ pre.length ∧ (pre ≠ [] → cs ≠ [])) rfl rfl ⟨k2, [], hA2, List.nodup_nil, (fun p h => by cases h), Nat.zero_le _, fun h => (h rfl).elim⟩ ?_ ?_
  rotate_left
  · rintro pre j post e kk hk S3 ⟨k3, cs, hA3, nd, hc, hl, hn⟩
    refine ⟨trivial, l, rfl, k3.pen, ?_⟩
    rintro _ _ ⟨p, m, hp1, hp2, s, rfl, rfl⟩
    have k4 := k3.draw s
    have hA4 : put S3 l m a = some (.lst (cs.map pt)) := by rw [put_ne hal]; exact hA3
    generalize put S3 l m = S4 at k4 hA4 ⊢
    conv => whnf
    rw [show rdL S4 (.ref a) = some (cs.map pt) by simp [rdL, hA4]]
    refine ⟨⟨rfl, okD_pts cs⟩, ?_⟩
    show cnd (!memD (pt p) (cs.map pt)) _ _
    rw [memD_pts]
    have hpl : pre.length < 6 := by
      have := congrArg List.length e
      simp only [List.length_append, List.length_cons, List.length_range] at this
      omega
    refine cnd_i (b := !decide (p ∈ cs)) (fun e2 => ?_) (fun e2 => ?_)
    · have e2 : p ∉ cs := of_decide_eq_false (by simpa using e2)
      refine ⟨by simp [ckL, rdL, hA4], ?_⟩
      refine app_w (ys := (cs ++ [p]).map pt) hA4 (by rw [List.length_map]; exact Nat.lt_of_le_of_lt (show cs.length ≤ 100 by omega) (by decide)) (by rw [List.map_append]; rfl) ?_
      intro S5 hA5 hS5
      refine hk _ ⟨k4.upd hS5 haS hal, cs ++ [p], hA5, ?_, ?_, ?_, fun _ => by simp⟩
      · refine List.nodup_append.mpr ⟨nd, by simp, fun x hx y hy => ?_⟩
        rw [List.mem_singleton.mp hy]
        rintro rfl
        exact e2 hx
      · intro x hx
        rcases List.mem_append.mp hx with hx | hx
        · exact hc x hx
        · rw [List.mem_singleton.mp hx]; exact ⟨hp2, hp1⟩
      · rw [List.length_append, List.length_append]
        exact Nat.add_le_add_right hl 1
    · have e2 : p ∈ cs := of_decide_eq_true (by simpa using e2)
      exact hk _ ⟨k4, cs, hA4, nd, hc, by rw [List.length_append]; exact Nat.le_succ_of_le hl, fun _ => List.ne_nil_of_mem e2⟩
  rintro S3 ⟨k3, cs, hA3, nd, hc, hl, hn⟩
  rw [List.length_range] at hl
  have hc6 : cs.length ≤ 6 := by omega
  have hc1 : 1 ≤ cs.length := by
    have := hn (fun e => by
      have := congrArg List.length e
      rw [List.length_range] at this
      simp at this
      omega)
    exact List.length_pos_iff.mpr this
  refine ⟨trivial, lz rfl, fun d hd => ?_⟩
  have hdl := k3.ne hd
  have hdS := k3.ne' hd
  have hda : d ≠ a := fun z => by rw [z, hA3] at hd; cases hd
  have k4 := k3.alloc (x := .lst []) hd
  have hA4 : put S3 d (.lst []) a = some (.lst (cs.map pt)) := by rw [put_ne hda.symm]; exact hA3
  have hD4 : put S3 d (.lst []) d = some (.lst (([] : List Rd).map rdP)) := put_same
  generalize put S3 d (.lst []) = S4 at k4 hA4 hD4 ⊢
  refine ⟨(l, 7), rfl, ⟨k4.pen, (by decide : (0 : Int) < 7), (by decide : (7 : Int) < 2 ^ 64)⟩, ?_⟩
  rintro _ _ ⟨rn, m2, rn0, rn1, s2, rfl, rfl⟩
  have rn1 : rn < 7 := rn1
  have k5 := k4.draw s2
  have hA5 : put S4 l m2 a = some (.lst (cs.map pt)) := by rw [put_ne hal]; exact hA4
  have hD5 : put S4 l m2 d = some (.lst (([] : List Rd).map rdP)) := by rw [put_ne hdl]; exact hD4
  generalize put S4 l m2 = S5 at k5 hA5 hD5 ⊢
  conv => whnf
  rw [lenP_at hA5, List.length_map]
  have fin : ∀ (S6 : Sto) (rs : List Rd), Pk St3 S l S6 → S6 a = some (.lst (cs.map pt)) → S6 d = some (.lst (rs.map rdP)) → (∀ r ∈ rs, (RdOk cs r ∧ r.mid.length ≤ 2) ∧ ∀ p ∈ r.mid, GdP 1536 p) → rs.length ≤ 6 → gRet (fN oTup (fCons (fN oTuple (fCons (fVar 1) fNil)) (fCons (fN oTuple (fCons (fVar 4) fNil)) fNil))) (endD Q) [some (.ref l), some (.ref a), none, none, some (.ref d), none, none, none, none] S6 := by
    intro S6 rs k6 hA6 hD6 hr hr6
    conv => whnf
    rw [show rdL S6 (.ref a) = some (cs.map pt) by simp [rdL, hA6]]
    conv => whnf
    rw [show rdL S6 (.ref d) = some (rs.map rdP) by simp [rdL, hD6]]
    refine ⟨lz rfl, k6.out fun m g => q _ _ ⟨(cs, rs), m, ⟨⟨hc1, Nat.le_trans hc6 (by decide), fun p hp => (hc p hp).1, nd, Nat.le_trans hr6 (by decide), fun r h => (hr r h).1.1⟩, ⟨fun p hp => (hc p hp).2, fun r h => (hr r h).2⟩, hc6, hr6, fun r h => (hr r h).1.2⟩, g, rfl, rfl⟩⟩
  by_cases h2 : 1 < cs.length
  rotate_left
  · have eg : decide ((1 : Int) < (cs.length : Int)) = false := decide_eq_false (by omega)
    show IntMulOk rn (if decide ((1 : Int) < (cs.length : Int)) then 1 else 0) ∧ bnd (rn * (if decide ((1 : Int) < (cs.length : Int)) then 1 else 0)) ∧ forW _ _ _ _ (rngP 0 (rn * (if decide ((1 : Int) < (cs.length : Int)) then 1 else 0))) _ _
    rw [eg]
    simp only [Bool.false_eq_true, if_false, Int.mul_zero]
    refine ⟨CMul.ok (.inr ⟨by decide, by decide⟩), ⟨by decide, by decide⟩, trivial, ?_⟩
    try simp only [st0, wipeP, List.set_cons_zero, List.set_cons_succ, List.map_cons, List.map_nil, List.cons_append, List.nil_append, List.replicate_succ, List.replicate_zero, List.length_cons, List.length_nil, Nat.reduceSub, Nat.reduceAdd]
    exact fin S5 [] k5 hA5 hD5 (fun r h => by cases h) (by decide)
  have eg : decide ((1 : Int) < (cs.length : Int)) = true := decide_eq_true (by omega)
  show IntMulOk rn (if decide ((1 : Int) < (cs.length : Int)) then 1 else 0) ∧ bnd (rn * (if decide ((1 : Int) < (cs.length : Int)) then 1 else 0)) ∧ forW _ _ _ _ (rngP 0 (rn * (if decide ((1 : Int) < (cs.length : Int)) then 1 else 0))) _ _
  rw [eg]
  simp only [if_true, Int.mul_one]
  refine ⟨CMul.ok (.inr ⟨by decide, by decide⟩), ⟨by omega, by omega⟩, ?_⟩
  try simp only [st0, wipeP, List.set_cons_zero, List.set_cons_succ, List.map_cons, List.map_nil, List.cons_append, List.nil_append, List.replicate_succ, List.replicate_zero, List.length_cons, List.length_nil, Nat.reduceSub, Nat.reduceAdd]
  rw [rng_nat]
  refine forW_a (fun (j : Nat) => .int ((0 : Int) + j)) (List.range rn.toNat) (fun _ => [some (.ref l), some (.ref a), none, none, some (.ref d), none, none, none, none]) (fun pre S6 => Pk St3 S l S6 ∧ S6 a = some (.lst (cs.map pt)) ∧ ∃ rs : List Rd, S6 d = some (.lst (rs.map rdP)) ∧ (∀ r ∈ rs, (RdOk cs r ∧ r.mid.length ≤ 2) ∧ ∀ p ∈ r.mid, GdP 1536 p) ∧ rs.length = pre.length) rfl rfl ⟨k5, hA5, [], hD5, (fun r h => by cases h), rfl⟩ ?_ ?_
  · rintro S6 ⟨k6, hA6, rs, hD6, hr, hrl⟩
    rw [List.length_range] at hrl
    exact ⟨trivial, fin S6 rs k6 hA6 hD6 hr (by omega)⟩
  rintro pre j post e kk hk S6 ⟨k6, hA6, rs, hD6, hr, hrl⟩
  have hpl : pre.length < 6 := by
    have := congrArg List.length e
    simp only [List.length_append, List.length_cons, List.length_range] at this
    omega
  refine ⟨trivial, ?_⟩
  conv => whnf
  rw [lenP_at hA6, List.length_map]
  refine ⟨(l, (cs.length : Int)), rfl, ⟨k6.pen, show (0 : Int) < (cs.length : Int) by omega, show (cs.length : Int) < 2 ^ 64 by omega⟩, ?_⟩
  rintro _ _ ⟨i, m3, i0, i1, s3, rfl, rfl⟩
  have i1 : i < (cs.length : Int) := i1
  obtain ⟨i, rfl⟩ : ∃ n : Nat, i = (n : Int) := ⟨i.toNat, by omega⟩
  have k7 := k6.draw s3
  have hA7 : put S6 l m3 a = some (.lst (cs.map pt)) := by rw [put_ne hal]; exact hA6
  have hD7 : put S6 l m3 d = some (.lst (rs.map rdP)) := by rw [put_ne hdl]; exact hD6
  generalize put S6 l m3 = S7 at k7 hA7 hD7 ⊢
  conv => whnf
  rw [lenP_at hA7, List.length_map]
  refine ⟨(l, (cs.length : Int) - 1), rfl, ⟨k7.pen, show (0 : Int) < (cs.length : Int) - 1 by omega, show (cs.length : Int) - 1 < 2 ^ 64 by omega⟩, ?_⟩
  rintro _ _ ⟨t, m4, t0, t1, s4, rfl, rfl⟩
  have t1 : t < (cs.length : Int) - 1 := t1
  have k8 := k7.draw s4
  have hA8 : put S7 l m4 a = some (.lst (cs.map pt)) := by rw [put_ne hal]; exact hA7
  have hD8 : put S7 l m4 d = some (.lst (rs.map rdP)) := by rw [put_ne hdl]; exact hD7
  generalize put S7 l m4 = S8 at k8 hA8 hD8 ⊢
  conv => whnf
  rw [lenP_at hA8, List.length_map]
  refine ⟨show (cs.length : Int) ≠ 0 by omega, ?_⟩
  have fm := fmod_bd (i := (i : Int) + 1 + t) (j := (cs.length : Int)) (by omega)
  have fne : ((i : Int) + 1 + t).fmod (cs.length : Int) ≠ i := fun z => by
    rw [Int.fmod_eq_emod_of_nonneg _ (by omega)] at z
    by_cases hlt : (i : Int) + 1 + t < cs.length
    · rw [Int.emod_eq_of_lt (by omega) hlt] at z
      omega
    · have : ((i : Int) + 1 + t) % (cs.length : Int) = (i : Int) + 1 + t - cs.length := by
        rw [← Int.sub_emod_right, Int.emod_eq_of_lt (by omega) (by omega)]
      omega
  obtain ⟨o, ho⟩ : ∃ n : Nat, ((i : Int) + 1 + t).fmod (cs.length : Int) = (n : Int) := ⟨_, (Int.toNat_of_nonneg fm.1).symm⟩
  have gi := atI_nat (cor_get (cs := cs) (i := i) (by omega))
  have go := atI_nat (cor_get (cs := cs) (i := o) (by omega))
  have hne : cor cs i ≠ cor cs o := fun z => by
    have hi : i < cs.length := by omega
    have ho' : o < cs.length := by omega
    unfold cor at z
    rw [List.getD_eq_getElem?_getD, List.getD_eq_getElem?_getD, List.getElem?_eq_getElem hi, List.getElem?_eq_getElem ho'] at z
    have := (List.getElem_inj nd).mp z
    omega
  rw [ho] at fm fne
  try simp only [st0, wipeP, List.set_cons_zero, List.set_cons_succ, List.map_cons, List.map_nil, List.cons_append, List.nil_append, List.replicate_succ, List.replicate_zero, List.length_cons, List.length_nil, Nat.reduceSub, Nat.reduceAdd]
  rw [ho]
  conv => whnf
  rw [show rdL S8 (.ref a) = some (cs.map pt) by simp [rdL, hA8]]
  conv => whnf
  rw [gi]
  refine ⟨lz rfl, fun b hb => ?_⟩
  have hbl := k8.ne hb
  have hbS := k8.ne' hb
  have hba : b ≠ a := fun z => by rw [z, hA8] at hb; cases hb
  have hbd : b ≠ d := fun z => by rw [z, hD8] at hb; cases hb
  have k9 := k8.alloc (x := .lst [pt (cor cs i)]) hb
  have hA9 : put S8 b (.lst [pt (cor cs i)]) a = some (.lst (cs.map pt)) := by rw [put_ne hba.symm]; exact hA8
  have hD9 : put S8 b (.lst [pt (cor cs i)]) d = some (.lst (rs.map rdP)) := by rw [put_ne hbd.symm]; exact hD8
  have hB9 : put S8 b (.lst [pt (cor cs i)]) b = some (.lst ((cor cs i :: []).map pt)) := put_same
  generalize put S8 b (.lst [pt (cor cs i)]) = S9 at k9 hA9 hD9 hB9 ⊢
  refine ⟨(l, 3), rfl, ⟨k9.pen, (by decide : (0 : Int) < 3), (by decide : (3 : Int) < 2 ^ 64)⟩, ?_⟩
  rintro _ _ ⟨u, m5, u0, u1, s5, rfl, rfl⟩
  have u1 : u < 3 := u1
  have k10 := k9.draw s5
  have hA10 : put S9 l m5 a = some (.lst (cs.map pt)) := by rw [put_ne hal]; exact hA9
  have hD10 : put S9 l m5 d = some (.lst (rs.map rdP)) := by rw [put_ne hdl]; exact hD9
  have hB10 : put S9 l m5 b = some (.lst ((cor cs i :: []).map pt)) := by rw [put_ne hbl]; exact hB9
  refine ⟨⟨by omega, by omega⟩, ?_⟩
  try simp only [st0, wipeP, List.set_cons_zero, List.set_cons_succ, List.map_cons, List.map_nil, List.cons_append, List.nil_append, List.replicate_succ, List.replicate_zero, List.length_cons, List.length_nil, Nat.reduceSub, Nat.reduceAdd]
  show forW _ _ _ _ (rngP 0 u) _ (put S9 l m5)
  generalize put S9 l m5 = S10 at k10 hA10 hD10 hB10 ⊢
  rw [rng_nat]
  refine forW_a (fun (j : Nat) => .int ((0 : Int) + j)) (List.range u.toNat) (fun _ => [some (.ref l), some (.ref a), some (.int (0 + (j : Int))), none, some (.ref d), some (.int i), some (.int o), some (.ref b), none]) (fun pre S6 => Pk St3 S l S6 ∧ S6 a = some (.lst (cs.map pt)) ∧ S6 d = some (.lst (rs.map rdP)) ∧ ∃ (mid pr : List Pt) (x : Pt), S6 b = some (.lst ((cor cs i :: mid).map pt)) ∧ cor cs i :: mid = pr ++ [x] ∧ LnOk (cor cs i :: mid) ∧ x ≠ cor cs o ∧ (∀ p ∈ mid, inLand p ∧ GdP 1536 p) ∧ mid.length ≤ pre.length) rfl rfl ⟨k10, hA10, hD10, [], [], cor cs i, hB10, rfl, (fun z hz => by cases hz), hne, (fun p hp => by cases hp), Nat.le_refl _⟩ ?_ ?_
  · rintro S6 ⟨k6, hA6, hD6, mid, pr, x, hB6, e1, hln, hx, hmid, hml⟩
    rw [List.length_range] at hml
    refine ⟨trivial, ?_⟩
    conv => whnf
    refine ⟨by simp [ckL, rdL, hD6], ?_⟩
    conv => whnf
    rw [show rdL S6 (.ref b) = some ((cor cs i :: mid).map pt) by simp [rdL, hB6]]
    dsimp only
    rw [cut_tail]
    refine ⟨(l, 2), rfl, ⟨k6.pen, (by decide : (0 : Int) < 2), (by decide : (2 : Int) < 2 ^ 64)⟩, ?_⟩
    rintro _ _ ⟨c, m6, c0, c1, s6, rfl, rfl⟩
    have c1 : c < 2 := c1
    have k7 := k6.draw s6
    have hA7 : put S6 l m6 a = some (.lst (cs.map pt)) := by rw [put_ne hal]; exact hA6
    have hD7 : put S6 l m6 d = some (.lst (rs.map rdP)) := by rw [put_ne hdl]; exact hD6
    generalize put S6 l m6 = S7 at k7 hA7 hD7 ⊢
    obtain ⟨w, hw⟩ : ∃ n : Nat, 1 + c = (n : Int) := ⟨(1 + c).toNat, by omega⟩
    refine ⟨lz rfl, ?_⟩
    conv => whnf
    refine app_w (ys := (rs ++ [(⟨i, o, mid, w⟩ : Rd)]).map rdP) hD7 (by rw [List.length_map]; exact Nat.lt_of_le_of_lt (show rs.length ≤ 100 by omega) (by decide)) ?_ ?_
    · rw [List.map_append, hw]; rfl
    intro S8 hD8 hS8
    refine hk _ ⟨k7.upd hS8 hdS hdl, by rw [hS8 a hda.symm]; exact hA7, _, hD8, ?_, ?_⟩
    · intro r hr0
      rcases List.mem_append.mp hr0 with hr0 | hr0
      · exact hr r hr0
      · rw [List.mem_singleton.mp hr0]
        refine ⟨⟨⟨show i < cs.length by omega, show o < cs.length by omega, show i ≠ o by omega, ⟨show 1 ≤ w by omega, show w ≤ 2 by omega⟩, show mid.length ≤ 4 by omega, fun p hp => (hmid p hp).1, ?_⟩, show mid.length ≤ 2 by omega⟩, fun p hp => (hmid p hp).2⟩
        show LnOk (cor cs i :: (mid ++ [cor cs o]))
        rw [show cor cs i :: (mid ++ [cor cs o]) = (cor cs i :: mid) ++ [cor cs o] from rfl, e1, List.append_assoc]
        rw [e1] at hln
        exact hln.snoc hx
    · rw [List.length_append, List.length_append, hrl]; rfl
  rintro pr0 j0 post0 e0 kk0 hk0 S6 ⟨k6, hA6, hD6, mid, pr, x, hB6, e1, hln, hx, hmid, hml⟩
  refine ⟨trivial, l, rfl, k6.pen, ?_⟩
  rintro _ _ ⟨p, m, hp1, hp2, sp, rfl, rfl⟩
  have k11 := k6.draw sp
  have hA11 : put S6 l m a = some (.lst (cs.map pt)) := by rw [put_ne hal]; exact hA6
  have hD11 : put S6 l m d = some (.lst (rs.map rdP)) := by rw [put_ne hdl]; exact hD6
  have hB11 : put S6 l m b = some (.lst ((cor cs i :: mid).map pt)) := by rw [put_ne hbl]; exact hB6
  generalize put S6 l m = S11 at k11 hA11 hD11 hB11 ⊢
  conv => whnf
  rw [show rdL S11 (.ref b) = some ((cor cs i :: mid).map pt) by simp [rdL, hB11]]
  conv => whnf
  rw [e1, List.map_append, List.map_singleton, at_lastW]
  conv => whnf
  rw [show rdL S11 (.ref a) = some (cs.map pt) by simp [rdL, hA11]]
  conv => whnf
  rw [go]
  refine ⟨lz rfl, ⟨rfl, rfl⟩, ?_⟩
  show cnd (!memD (pt p) ([x, cor cs o].map pt)) _ _
  rw [memD_pts]
  refine cnd_i (b := !decide (p ∈ [x, cor cs o])) (fun e2 => ?_) (fun e2 => ?_)
  · have e2 : p ∉ [x, cor cs o] := of_decide_eq_false (by simpa using e2)
    simp only [List.mem_cons, List.not_mem_nil, or_false, not_or] at e2
    refine ⟨by simp [ckL, rdL, hB11], ?_⟩
    have hp0 : pr0.length < 3 := by
      have := congrArg List.length e0
      simp only [List.length_append, List.length_cons, List.length_range] at this
      omega
    refine app_w (ys := (cor cs i :: (mid ++ [p])).map pt) hB11 (by rw [List.length_map, List.length_cons]; exact Nat.lt_of_le_of_lt (show mid.length + 1 ≤ 100 by omega) (by decide)) (by simp) ?_
    intro S12 hB12 hS12
    refine hk0 _ ⟨k11.upd hS12 hbS hbl, by rw [hS12 a hba.symm]; exact hA11, by rw [hS12 d hbd.symm]; exact hD11, mid ++ [p], cor cs i :: mid, p, hB12, rfl, ?_, e2.2, ?_, ?_⟩
    · rw [show cor cs i :: (mid ++ [p]) = (cor cs i :: mid) ++ [p] from rfl, e1, List.append_assoc]
      rw [e1] at hln
      exact hln.snoc (Ne.symm e2.1)
    · intro y hy
      rcases List.mem_append.mp hy with hy | hy
      · exact hmid y hy
      · rw [List.mem_singleton.mp hy]; exact ⟨hp2, hp1⟩
    · rw [List.length_append, List.length_append]
      exact Nat.add_le_add_right hml 1
  · exact hk0 _ ⟨k11, hA11, hD11, mid, pr, x, hB11, e1, hln, hx, hmid, by rw [List.length_append]; exact Nat.le_succ_of_le hml⟩

def sp__law_same : PSp := SpB (fun (a : Pv × Pv) => [a.1, a.2]) (fun a S => okR (top S a.1) ∧ okR (top S a.2)) fun a S => decide ((toD (top S a.1)).shown = (toD (top S a.2)).shown)
def b__law_same : PFS :=
  gRet (f2 oEq (fN oRepr (fCons (fVar 0) (fNil))) (fN oRepr (fCons (fVar 1) (fNil))))
theorem len__law_same : ∀ (xs : List Pv) (S : Sto) (Q : QV) (E : QE), sp__law_same xs S Q E → xs.length = 2 := SpB.len fun _ => rfl
theorem mono__law_same : ∀ (xs : List Pv) (S : Sto) (Q Q' : QV) (E E' : QE), (∀ p S', Q p S' → Q' p S') → (∀ C S', E C S' → E' C S') → sp__law_same xs S Q E → sp__law_same xs S Q' E' := SpB.mono
theorem ex__law_same {xs : List Pv} {S0 : Sto} {Q : QV} {Ep : QE} : sp__law_same xs S0 Q Ep → b__law_same (endD Q) (st0 2 xs) S0 := SpB.ex fun ⟨x, y⟩ S Q h q => by
  refine ⟨h.1, fun z e => ⟨h.2, fun z' e' => Out.id ?_⟩⟩
  subst e e'
  exact q

def sp__law_corners : PSp := SpF webA WebI fun a => .lst ((lineW a.1 a.2).map pt)
def b__law_corners : PFS :=
  gSeq (gTgt (.tp [.nm 2, .nm 3, .nm 4, .nm 5]) (f2 oIx (f2 oIx (fVar 0) (fC (.int 1))) (fVar 1)))
    (gRet (f2 oAdd (f2 oAdd (fN oLst (fCons (f2 oIx (f2 oIx (fVar 0) (fC (.int 0))) (fVar 2)) (fNil))) (fN oList (fCons (fVar 4) (fNil)))) (fN oLst (fCons (f2 oIx (f2 oIx (fVar 0) (fC (.int 0))) (fVar 3)) (fNil)))))
theorem len__law_corners : ∀ (xs : List Pv) (S : Sto) (Q : QV) (E : QE), sp__law_corners xs S Q E → xs.length = 2 := SpF.len fun _ => rfl
theorem mono__law_corners : ∀ (xs : List Pv) (S : Sto) (Q Q' : QV) (E E' : QE), (∀ p S', Q p S' → Q' p S') → (∀ C S', E C S' → E' C S') → sp__law_corners xs S Q E → sp__law_corners xs S Q' E' := SpF.mono
theorem ex__law_corners {xs : List Pv} {S0 : Sto} {Q : QV} {Ep : QE} : sp__law_corners xs S0 Q Ep → b__law_corners (endD Q) (st0 6 xs) S0 := SpF.ex fun ⟨W, i⟩ S Q ⟨hW, hi⟩ k => by
  have hr := hW.rd _ (rdAt_mem hi)
  have k : Q (.lst ((lineW W i).map pt)) S := k
  have hm : (rdAt W i).mid.length ≤ 4 := hr.mid
  show (match atI (W.2.map rdP) (i : Int) with | some p => _ | none => False)
  rw [atI_nat (rdAt_get hi)]
  show (match atI (W.1.map pt) ((rdAt W i).a : Int) with | some p => _ | none => False)
  rw [atI_nat (cor_get hr.a)]
  refine ⟨lz rfl, Nat.le_trans (show 1 + ((rdAt W i).mid.map pt).length ≤ 9 by rw [List.length_map]; omega) (by decide), ?_⟩
  show (match atI (W.1.map pt) ((rdAt W i).b : Int) with | some p => _ | none => False)
  rw [atI_nat (cor_get hr.b)]
  refine ⟨lz rfl, Nat.le_trans (show ([pt (cor W.1 (rdAt W i).a)] ++ (rdAt W i).mid.map pt).length + 1 ≤ 9 by rw [List.length_append, List.length_map]; show 1 + _ + 1 ≤ 9; omega) (by decide), Out.id ?_⟩
  have e : [pt (cor W.1 (rdAt W i).a)] ++ (rdAt W i).mid.map pt ++ [pt (cor W.1 (rdAt W i).b)] = (lineW W i).map pt := by unfold lineW lineR; simp
  rw [e]
  exact k

def sp__law_piece : PSp := SpF (fun (a : Pt × Pt) => [pt a.1, pt a.2]) (fun a => SzP 900 a.1 ∧ SzP 900 a.2) fun a => fr (stP a)
def b__law_piece : PFS :=
  gSeq (gSet 2 (fLc (fZip (fCons (fVar 0) (fCons (fVar 1) (fNil)))) (.tp [.nm 3, .nm 4]) (fYes) (fCall sp__law_amount [] noE (fCons (fCall sp__law_minus [] noE (fCons (fVar 3) (fCons (fVar 4) (fNil)))) (fNil))) [3, 4]))
    (gRet (fCall sp__law_plus [] noE (fCons (f2 oIx (fVar 2) (fC (.int 0))) (fCons (f2 oIx (fVar 2) (fC (.int 1))) (fNil)))))
theorem len__law_piece : ∀ (xs : List Pv) (S : Sto) (Q : QV) (E : QE), sp__law_piece xs S Q E → xs.length = 2 := SpF.len fun _ => rfl
theorem mono__law_piece : ∀ (xs : List Pv) (S : Sto) (Q Q' : QV) (E E' : QE), (∀ p S', Q p S' → Q' p S') → (∀ C S', E C S' → E' C S') → sp__law_piece xs S Q E → sp__law_piece xs S Q' E' := SpF.mono
theorem ex__law_piece {xs : List Pv} {S0 : Sto} {Q : QV} {Ep : QE} : sp__law_piece xs S0 Q Ep → b__law_piece (endD Q) (st0 5 xs) S0 := SpF.ex fun ⟨p, q⟩ S Q ⟨hp, hq⟩ k => by
  have hp : SzP 900 p := hp
  have hq : SzP 900 q := hq
  refine lc_map [(p.1, q.1), (p.2, q.2)] (fun x => .tup [fr x.1, fr x.2]) (fun x => fr (absR (x.1 - x.2))) rfl (lz rfl) (fun _ _ => trivial) (fun x hx S2 _ => ⟨_, rfl, fun k hk => ?_⟩) ?_
  · have h : Sz 900 x.1 ∧ Sz 900 x.2 := by
      simp only [List.mem_cons, List.not_mem_nil, or_false] at hx
      rcases hx with rfl | rfl
      · exact ⟨hp.1, hq.1⟩
      · exact ⟨hp.2, hq.2⟩
    exact ⟨(x.1, x.2), rfl, ⟨h.1.up (by decide), h.2.up (by decide)⟩, x.1 - x.2, rfl, trivial, hk⟩
  · exact ⟨(absR (p.1 - q.1), absR (p.2 - q.2)), rfl, ⟨((hp.1.sub hq.1).abs).up (by decide), ((hp.2.sub hq.2).abs).up (by decide)⟩, Out.id k⟩

def sp__law_long : PSp := SpF webA WebS fun a => fr (longW a.1 a.2)
def b__law_long : PFS :=
  gSeq (gPar 2 3 (fCons (fN oTup (fCons (fC (.int 0)) (fCons (fC (.int 1)) (fNil)))) (fCons (fCall sp__law_corners [] noE (fCons (fVar 0) (fCons (fVar 1) (fNil)))) (fNil))))
    (gSeq (gBeg [4, 5] (gFor (fZip (fCons (fVar 3) (fCons (fSl (fVar 3) (fPart (fC (.int 1))) (fNoPart)) (fNil)))) (.tp [.nm 4, .nm 5]) (gEnd [4, 5] (gSet 2 (fCall sp__law_plus [] noE (fCons (fVar 2) (fCons (fCall sp__law_piece [] noE (fCons (fVar 4) (fCons (fVar 5) (fNil)))) (fNil))))))))
    (gRet (fVar 2)))
theorem len__law_long : ∀ (xs : List Pv) (S : Sto) (Q : QV) (E : QE), sp__law_long xs S Q E → xs.length = 2 := SpF.len fun _ => rfl
theorem mono__law_long : ∀ (xs : List Pv) (S : Sto) (Q Q' : QV) (E E' : QE), (∀ p S', Q p S' → Q' p S') → (∀ C S', E C S' → E' C S') → sp__law_long xs S Q E → sp__law_long xs S Q' E' := SpF.mono
theorem ex__law_long {xs : List Pv} {S0 : Sto} {Q : QV} {Ep : QE} : sp__law_long xs S0 Q Ep → b__law_long (endD Q) (st0 6 xs) S0 := SpF.ex fun ⟨W, i⟩ S Q ⟨h, hs⟩ k => by
  have k : Q (fr (longW W i)) S := k
  refine ⟨lz rfl, (W, i), rfl, h, ?_⟩
  try simp only [st0, wipeP, List.set_cons_zero, List.set_cons_succ, List.map_cons, List.map_nil, List.cons_append, List.nil_append, List.replicate_succ, List.replicate_zero, List.length_cons, List.length_nil, Nat.reduceSub, Nat.reduceAdd]
  conv => whnf
  rw [cut_tail, pcs_map]
  refine forW_a pcP (pcsW W i) (fun pre => [some (webP W), some (.int i), some (fr (sumR (pre.map stP))), some (.lst ((lineW W i).map pt)), none, none]) (fun _ S2 => S2 = S) rfl rfl rfl ?_ ?_
  · rintro _ rfl
    exact ⟨⟨trivial, trivial⟩, Out.id k⟩
  · rintro pre x post e kk hk S2 rfl
    obtain ⟨z1, z2⟩ := pre_sz h hs e
    obtain ⟨z3, z4, z5⟩ := z2 x (by rw [← e]; simp)
    refine ⟨⟨trivial, trivial⟩, (x.1, x.2), rfl, ⟨z4.up (by decide), z5.up (by decide)⟩, (sumR (pre.map stP), stP x), rfl, ⟨z1.up (by decide), z3.up (by decide)⟩, ?_⟩
    have := hk S2 rfl
    rw [List.map_append, List.map_singleton, sumR_snoc] at this
    exact this

def sp__law_between : PSp := SpF (fun (a : Pt × Pt × Rat) => [pt a.1, pt a.2.1, fr a.2.2]) (fun a => SzP 900 a.1 ∧ SzP 900 a.2.1 ∧ Sz 900 a.2.2) fun a => pt (shareR a.1 a.2.1 a.2.2)
def b__law_between : PFS :=
  gSeq (gSet 3 (fN oLstT (fNil)))
    (gSeq (gBeg [4, 5] (gFor (fZip (fCons (fVar 0) (fCons (fVar 1) (fNil)))) (.tp [.nm 4, .nm 5]) (gEnd [4, 5] (gDrop (fMeth ckL oAppend (fVar 3) (fCons (fCall sp__law_plus [] noE (fCons (fCall sp__law_times [] noE (fCons (fVar 4) (fCons (fCall sp__law_minus [] noE (fCons (fN oTup (fCons (fC (.int 1)) (fCons (fC (.int 1)) (fNil)))) (fCons (fVar 2) (fNil)))) (fNil)))) (fCons (fCall sp__law_times [] noE (fCons (fVar 5) (fCons (fVar 2) (fNil)))) (fNil)))) (fNil)))))))
    (gRet (fN oTuple (fCons (fVar 3) (fNil)))))
theorem len__law_between : ∀ (xs : List Pv) (S : Sto) (Q : QV) (E : QE), sp__law_between xs S Q E → xs.length = 3 := SpF.len fun _ => rfl
theorem mono__law_between : ∀ (xs : List Pv) (S : Sto) (Q Q' : QV) (E E' : QE), (∀ p S', Q p S' → Q' p S') → (∀ C S', E C S' → E' C S') → sp__law_between xs S Q E → sp__law_between xs S Q' E' := SpF.mono
theorem ex__law_between {xs : List Pv} {S0 : Sto} {Q : QV} {Ep : QE} : sp__law_between xs S0 Q Ep → b__law_between (endD Q) (st0 6 xs) S0 := SpF.ex fun ⟨p, q, s⟩ S Q ⟨hp, hq, hs⟩ k => by
  have hp : SzP 900 p := hp
  have hq : SzP 900 q := hq
  have hs : Sz 900 s := hs
  have k : Q (pt (shareR p q s)) S := k
  refine ⟨lz rfl, fun l hl => ?_⟩
  have s1 : Sz 3900 (1 : Rat) := Sz.one.up (by decide)
  have sm := Sz.one.sub hs
  have t1 := (hp.1.mul sm).add (hq.1.mul hs)
  have t2 := (hp.2.mul sm).add (hq.2.mul hs)
  try simp only [st0, wipeP, List.set_cons_zero, List.set_cons_succ, List.map_cons, List.map_nil, List.cons_append, List.nil_append, List.replicate_succ, List.replicate_zero, List.length_cons, List.length_nil, Nat.reduceSub, Nat.reduceAdd]
  have e1 := betw p.1 q.1 s
  have e2 := betw p.2 q.2 s
  refine ⟨trivial, by simp [ckL, rdL], lz rfl, (1, s), rfl, ⟨s1, hs.up (by decide)⟩, (p.1, 1 - s), rfl, ⟨hp.1.up (by decide), sm.up (by decide)⟩, (q.1, s), rfl, ⟨hq.1.up (by decide), hs.up (by decide)⟩, (p.1 * (1 - s), q.1 * s), rfl, ⟨(hp.1.mul sm).up (by decide), (hq.1.mul hs).up (by decide)⟩, ?_⟩
  refine app_w (ys := [fr (p.1 * (1 - s) + q.1 * s)]) put_same (lz' rfl) rfl ?_
  intro S2 h2 h3
  refine ⟨trivial, by simp [ckL, rdL, h2], lz rfl, (1, s), rfl, ⟨s1, hs.up (by decide)⟩, (p.2, 1 - s), rfl, ⟨hp.2.up (by decide), sm.up (by decide)⟩, (q.2, s), rfl, ⟨hq.2.up (by decide), hs.up (by decide)⟩, (p.2 * (1 - s), q.2 * s), rfl, ⟨(hp.2.mul sm).up (by decide), (hq.2.mul hs).up (by decide)⟩, ?_⟩
  refine app_w (ys := [fr (p.1 * (1 - s) + q.1 * s), fr (p.2 * (1 - s) + q.2 * s)]) h2 (lz' rfl) rfl ?_
  intro S3 h4 h5
  refine ⟨trivial, ?_⟩
  conv => whnf
  rw [show rdL S3 (.ref l) = some [fr (p.1 * (1 - s) + q.1 * s), fr (p.2 * (1 - s) + q.2 * s)] by simp [rdL, h4], e1, e2]
  refine Out.less (S' := S) (fun b m hb => ?_) k
  have hbl : b ≠ l := fun e => by rw [e, hl] at hb; cases hb
  rw [h5 b hbl, h3 b hbl, put_ne hbl]
  exact hb

def sp__law_at : PSp := SpF (fun (a : Web × (Nat × Rat)) => [webP a.1, .int a.2.1, fr a.2.2]) (fun a => (WebOk a.1 ∧ GdW a.1) ∧ SpotOk a.1 a.2 ∧ Sz 320 a.2.2) fun a => pt (pointW a.1 a.2)
def b__law_at : PFS :=
  gSeq (gSet 3 (fCall sp__law_corners [] noE (fCons (fVar 0) (fCons (fVar 1) (fNil)))))
    (gSeq (gBeg [4, 5, 6] (gFor (fZip (fCons (fVar 3) (fCons (fSl (fVar 3) (fPart (fC (.int 1))) (fNoPart)) (fNil)))) (.tp [.nm 4, .nm 5]) (gEnd [4, 5, 6] (gSeq (gSet 6 (fCall sp__law_piece [] noE (fCons (fVar 4) (fCons (fVar 5) (fNil)))))
    (gSeq (gIf (fNot (fBV (fCall sp__law_less [] noE (fCons (fVar 6) (fCons (fVar 2) (fNil)))))) (gRet (fCall sp__law_between [] noE (fCons (fVar 4) (fCons (fVar 5) (fCons (fCall sp__law_over [] noE (fCons (fVar 2) (fCons (fVar 6) (fNil)))) (fNil)))))) (gNext))
    (gSet 2 (fCall sp__law_minus [] noE (fCons (fVar 2) (fCons (fVar 6) (fNil))))))))))
    (gRet (fC .non)))
theorem len__law_at : ∀ (xs : List Pv) (S : Sto) (Q : QV) (E : QE), sp__law_at xs S Q E → xs.length = 3 := SpF.len fun _ => rfl
theorem mono__law_at : ∀ (xs : List Pv) (S : Sto) (Q Q' : QV) (E E' : QE), (∀ p S', Q p S' → Q' p S') → (∀ C S', E C S' → E' C S') → sp__law_at xs S Q E → sp__law_at xs S Q' E' := SpF.mono
theorem ex__law_at {xs : List Pv} {S0 : Sto} {Q : QV} {Ep : QE} : sp__law_at xs S0 Q Ep → b__law_at (endD Q) (st0 7 xs) S0 := SpF.ex fun ⟨W, i, far⟩ S Q ⟨⟨hW, hs⟩, h, hz⟩ k => by
  have hW : WebOk W := hW
  have hs : GdW W := hs
  have h : SpotOk W (i, far) := h
  have hz : Sz 320 far := hz
  have k : Q (pt (atR far (pcsW W i) 0)) S := k
  have hI : WebI (W, i) := ⟨hW, h.i⟩
  refine ⟨(W, i), rfl, hI, ?_⟩
  try simp only [st0, wipeP, List.set_cons_zero, List.set_cons_succ, List.map_cons, List.map_nil, List.cons_append, List.nil_append, List.replicate_succ, List.replicate_zero, List.length_cons, List.length_nil, Nat.reduceSub, Nat.reduceAdd]
  conv => whnf
  rw [cut_tail, pcs_map]
  refine forW_a pcP (pcsW W i) (fun pre => [some (webP W), some (.int i), some (fr (far - sumR (pre.map stP))), some (.lst ((lineW W i).map pt)), none, none, none]) (fun pre S2 => S2 = S ∧ (pre ≠ [] → sumR (pre.map stP) < far) ∧ ∀ post, pre ++ post = pcsW W i → atR far (pcsW W i) 0 = atR far post (sumR (pre.map stP))) rfl ?_ ⟨rfl, fun h => (h rfl).elim, fun post e => by rw [← e]; rfl⟩ ?_ ?_
  · show _ = [some (webP W), some (.int i), some (fr (far - 0)), some (.lst ((lineW W i).map pt)), none, none, none]
    rw [show far - 0 = far by grind]
    rfl
  · rintro _ ⟨rfl, h2, -⟩
    by_cases he : pcsW W i = []
    · have hl : (pcsW W i).length ≠ 0 := by
        unfold pcsW pcs lineW lineR
        rw [List.length_zip, List.length_tail]
        simp
      exact absurd (by rw [he]; rfl) hl
    · exact absurd (h2 he) (Rat.not_lt.mpr h.le)
  · rintro pre x post e kk hk S2 ⟨rfl, h1, h2⟩
    obtain ⟨z1, z2⟩ := pre_sz hI hs e
    have hx : x ∈ pcsW W i := by rw [← e]; simp
    obtain ⟨z3, z4, z5⟩ := z2 x hx
    have hp := stP_pos ((hW.rd _ (rdAt_mem h.i)).apart x hx)
    have zf := hz.sub z1
    refine ⟨⟨trivial, trivial⟩, (x.1, x.2), rfl, ⟨z4.up (by decide), z5.up (by decide)⟩, ?_⟩
    refine ⟨(stP x, far - sumR (pre.map stP)), rfl, ⟨z3.up (by decide), zf.up (by decide)⟩, cnd_i (b := !decide (stP x < far - sumR (pre.map stP))) (fun e2 => ?_) (fun e2 => ?_)⟩
    · have e2 : ¬ stP x < far - sumR (pre.map stP) := of_decide_eq_false (by simpa using e2)
      have e3 := h2 _ e
      rw [e3] at k
      unfold atR at k
      rw [if_neg (by grind)] at k
      have zd := zf.div z3 (show stP x ≠ 0 by grind)
      exact ⟨(far - sumR (pre.map stP), stP x), rfl, ⟨zf.up (by decide), z3.up (by decide), show stP x ≠ 0 by grind⟩, (x.1, x.2, (far - sumR (pre.map stP)) / stP x), rfl, ⟨z4.up (by decide), z5.up (by decide), zd.up (by decide)⟩, Out.id k⟩
    · have e2 : stP x < far - sumR (pre.map stP) := of_decide_eq_true (by simpa using e2)
      have e4 : sumR (pre.map stP) + stP x < far := by grind
      refine ⟨(far - sumR (pre.map stP), stP x), rfl, ⟨zf.up (by decide), z3.up (by decide)⟩, ?_⟩
      have es : sumR ((pre ++ [x]).map stP) = sumR (pre.map stP) + stP x := by rw [List.map_append, List.map_singleton, sumR_snoc]
      have := hk S2 ⟨rfl, fun _ => by rw [es]; exact e4, fun post' e' => ?_⟩
      · rw [es, show far - (sumR (pre.map stP) + stP x) = far - sumR (pre.map stP) - stP x by grind] at this
        exact this
      · rw [es]
        have e3 := h2 (x :: post') (by rw [← e']; simp)
        rw [e3]
        conv => lhs; unfold atR
        rw [if_pos e4]

def sp__law_far : PSp := SpS (fun (a : Addr × Web × Nat) => [.ref a.1, webP a.2.1, .int a.2.2]) (fun a S => (∃ m, S a.1 = some m ∧ St3 m) ∧ WebS a.2) fun a S p S' => ∃ far m, SpotOk a.2.1 (a.2.2, far) ∧ Sz 24 far ∧ St3 m ∧ p = fr far ∧ S' = put S a.1 m
def b__law_far : PFS :=
  gSeq (gPar 3 4 (fCons (fCall sp__law_long [] noE (fCons (fVar 1) (fCons (fVar 2) (fNil)))) (fCons (fCall sp__law_corners [] noE (fCons (fVar 1) (fCons (fVar 2) (fNil)))) (fNil))))
    (gSeq (gSet 5 (fCall sp__law_choice [] noE (fCons (fVar 0) (fCons (fC (.int 6)) (fNil)))))
    (gSeq (gIf (fBV (f2 oLt (fVar 5) (fC (.int 2)))) (gRet (f2 oIx (fN oLst (fCons (fN oTup (fCons (fC (.int 0)) (fCons (fC (.int 1)) (fNil)))) (fCons (fVar 3) (fNil)))) (fVar 5))) (gNext))
    (gSeq (gIf (fBV (f2 oEq (fVar 5) (fC (.int 2)))) (gRet (fCall sp__law_piece [] noE (fCons (f2 oIx (fVar 4) (fC (.int 0))) (fCons (f2 oIx (fVar 4) (fC (.int 1))) (fNil))))) (gNext))
    (gSeq (gSet 6 (f2 oAdd (fC (.int 1)) (fCall sp__law_choice [] noE (fCons (fVar 0) (fCons (f2 oIx (fN oLst (fCons (fC (.int 4)) (fCons (fC (.int 60)) (fNil)))) (fCall sp__law_choice [] noE (fCons (fVar 0) (fCons (fC (.int 2)) (fNil))))) (fNil))))))
    (gRet (fCall sp__law_times [] noE (fCons (fVar 3) (fCons (fCall sp__law_low [] noE (fCons (fCall sp__law_choice [] noE (fCons (fVar 0) (fCons (f2 oAdd (fVar 6) (fC (.int 1))) (fNil)))) (fCons (fVar 6) (fNil)))) (fNil)))))))))
theorem len__law_far : ∀ (xs : List Pv) (S : Sto) (Q : QV) (E : QE), sp__law_far xs S Q E → xs.length = 3 := SpS.len fun _ => rfl
theorem mono__law_far : ∀ (xs : List Pv) (S : Sto) (Q Q' : QV) (E E' : QE), (∀ p S', Q p S' → Q' p S') → (∀ C S', E C S' → E' C S') → sp__law_far xs S Q E → sp__law_far xs S Q' E' := SpS.mono
theorem ex__law_far {xs : List Pv} {S0 : Sto} {Q : QV} {Ep : QE} : sp__law_far xs S0 Q Ep → b__law_far (endD Q) (st0 7 xs) S0 := SpS.ex fun ⟨l, W, i⟩ S Q ⟨hm, h, hs⟩ q => by
  have h : WebI (W, i) := h
  have hs : GdW W := hs
  have zl := (pre_sz h hs (pre := pcsW W i) (post := []) (by simp)).1
  have zp := (pre_sz h hs (pre := pcsW W i) (post := []) (by simp)).2
  have ln := long_nn W i
  refine ⟨(W, i), rfl, ⟨h, hs⟩, (W, i), rfl, h, ?_⟩
  try simp only [st0, wipeP, List.set_cons_zero, List.set_cons_succ, List.map_cons, List.map_nil, List.cons_append, List.nil_append, List.replicate_succ, List.replicate_zero, List.length_cons, List.length_nil, Nat.reduceSub, Nat.reduceAdd]
  refine ⟨(l, 6), rfl, ⟨hm, (by decide : (0 : Int) < 6), (by decide : (6 : Int) < 2 ^ 64)⟩, ?_⟩
  rintro _ _ ⟨r, m1, r0, r1, s1, rfl, rfl⟩
  have r1 : r < 6 := r1
  have fin : ∀ far m, 0 ≤ far → far ≤ longW W i → Sz 24 far → St3 m → Out Q (fr far) (put S l m) := fun far m a b c d => Out.id (q _ _ ⟨far, m, ⟨h.2, a, b⟩, c, d, rfl, rfl⟩)
  refine cnd_i (b := decide (r < 2)) (fun e => ?_) (fun e => ?_)
  · have e := of_decide_eq_true e
    refine ⟨lz rfl, lz rfl, ?_⟩
    obtain ⟨f, e2, hf⟩ := at_map (xs := [(0 : Rat), longW W i]) (f := fr) (r := r) (P := fun f => (0 ≤ f ∧ f ≤ longW W i) ∧ Sz 24 f) r0 (by simpa using e) (by
      intro f hf
      simp only [List.mem_cons, List.not_mem_nil, or_false] at hf
      rcases hf with rfl | rfl
      · exact ⟨⟨Rat.le_refl, ln⟩, Sz.zero.up (by decide)⟩
      · exact ⟨⟨ln, Rat.le_refl⟩, zl.up (by decide)⟩)
    show match atI ([(0 : Rat), longW W i].map fr) r with | some p => _ | none => False
    rw [e2]
    exact fin f m1 hf.1.1 hf.1.2 hf.2 s1
  refine cnd_i (b := decide (r = 2)) (fun e => ?_) (fun e => ?_)
  · obtain ⟨a, b, rest, el⟩ := line_two (W := W) (i := i)
    rw [el, List.map_cons, List.map_cons]
    show match atI (pt a :: pt b :: rest.map pt) 0 with | some p => _ | none => False
    rw [at0]
    show match atI (pt a :: pt b :: rest.map pt) 1 with | some p => _ | none => False
    rw [at1]
    have ep : pcsW W i = (a, b) :: pcs (b :: rest) := by unfold pcsW; rw [el]; rfl
    have zz := zp (a, b) (by rw [ep]; simp)
    refine ⟨(a, b), rfl, ⟨zz.2.1.up (by decide), zz.2.2.up (by decide)⟩, fin _ m1 (stP_nn _) ?_ (zz.1.up (by decide)) s1⟩
    unfold longW
    rw [ep]
    exact first_le _ _
  refine ⟨lz rfl, (l, 2), rfl, ⟨⟨_, put_same, s1⟩, (by decide : (0 : Int) < 2), (by decide : (2 : Int) < 2 ^ 64)⟩, ?_⟩
  rintro _ _ ⟨r2, m2, r20, r21, s2, rfl, rfl⟩
  obtain ⟨n, e2, n0, n1⟩ := at_ints (ns := [4, 60]) (r := r2) (P := fun n => 0 < n ∧ n ≤ 60) r20 (by simpa using r21) (by decide)
  show match atI ([4, 60].map Pv.int) r2 with | some p => _ | none => False
  rw [e2]
  refine ⟨(l, n), rfl, ⟨⟨_, put_same, s2⟩, n0, by omega⟩, ?_⟩
  rintro _ _ ⟨b, m3, b0, b1, s3, rfl, rfl⟩
  have b1 : b < n := b1
  refine ⟨(l, 1 + b + 1), rfl, ⟨⟨_, put_same, s3⟩, show (0 : Int) < 1 + b + 1 by omega, show 1 + b + 1 < 2 ^ 64 by omega⟩, ?_⟩
  rintro _ _ ⟨t, m4, t0, t1, s4, rfl, rfl⟩
  have t1 : t < 1 + b + 1 := t1
  have sb : szI 7 (1 + b) := by unfold szI; omega
  have st : szI 7 t := by unfold szI; omega
  have sd := divInt_sz (show 1 + b ≠ 0 by omega) st sb
  refine ⟨(t, 1 + b), rfl, ⟨show 1 + b ≠ 0 by omega, st.up (by decide), sb.up (by decide)⟩, (longW W i, Rat.divInt t (1 + b)), rfl, ⟨zl.up (by decide), sd.up (by decide)⟩, ?_⟩
  rw [put_put, put_put, put_put]
  have p0 : (0 : Rat) ≤ Rat.divInt t (1 + b) := Rat.divInt_nonneg t0 (by omega)
  have p1 : Rat.divInt t (1 + b) ≤ 1 := div_le_one (by omega) (by omega)
  refine fin _ m4 (Rat.mul_nonneg ln p0) ?_ ((zl.mul sd).up (by decide)) s4
  have := Rat.mul_le_mul_of_nonneg_left p1 ln
  rw [Rat.mul_one] at this
  exact this

def sp__law_spot : PSp := SpS (fun (a : Addr × Web) => [.ref a.1, webP a.2]) (fun a S => (∃ m, S a.1 = some m ∧ St3 m) ∧ (WebOk a.2 ∧ GdW a.2) ∧ a.2.2 ≠ []) fun a S p S' => ∃ s m, SpotOk a.2 s ∧ Sz 24 s.2 ∧ St3 m ∧ p = spotP s ∧ S' = put S a.1 m
def b__law_spot : PFS :=
  gSeq (gSet 2 (fCall sp__law_choice [] noE (fCons (fVar 0) (fCons (fN oLen (fCons (f2 oIx (fVar 1) (fC (.int 1))) (fNil))) (fNil)))))
    (gRet (fN oTup (fCons (fVar 2) (fCons (fCall sp__law_far [] noE (fCons (fVar 0) (fCons (fVar 1) (fCons (fVar 2) (fNil))))) (fNil)))))
theorem len__law_spot : ∀ (xs : List Pv) (S : Sto) (Q : QV) (E : QE), sp__law_spot xs S Q E → xs.length = 2 := SpS.len fun _ => rfl
theorem mono__law_spot : ∀ (xs : List Pv) (S : Sto) (Q Q' : QV) (E E' : QE), (∀ p S', Q p S' → Q' p S') → (∀ C S', E C S' → E' C S') → sp__law_spot xs S Q E → sp__law_spot xs S Q' E' := SpS.mono
theorem ex__law_spot {xs : List Pv} {S0 : Sto} {Q : QV} {Ep : QE} : sp__law_spot xs S0 Q Ep → b__law_spot (endD Q) (st0 3 xs) S0 := SpS.ex fun ⟨l, W⟩ S Q ⟨hm, ⟨hW, hs⟩, hn⟩ q => by
  have hW : WebOk W := hW
  have hs : GdW W := hs
  have hn : W.2 ≠ [] := hn
  have hp := List.length_pos_iff.mpr hn
  have hr := hW.r
  refine ⟨(l, ((W.2.map rdP).length : Int)), rfl, ⟨hm, show (0 : Int) < ((W.2.map rdP).length : Int) by rw [List.length_map]; omega, show ((W.2.map rdP).length : Int) < 2 ^ 64 by rw [List.length_map]; omega⟩, ?_⟩
  rintro _ _ ⟨r, m1, r0, r1, s1, rfl, rfl⟩
  have r1 : r < ((W.2.map rdP).length : Int) := r1
  rw [List.length_map] at r1
  obtain ⟨i, rfl⟩ : ∃ n : Nat, r = (n : Int) := ⟨r.toNat, by omega⟩
  refine ⟨(l, W, i), rfl, ⟨⟨_, put_same, s1⟩, ⟨hW, show i < W.2.length by omega⟩, hs⟩, ?_⟩
  rintro _ _ ⟨far, m2, h1, h2, s2, rfl, rfl⟩
  rw [put_put]
  exact ⟨lz rfl, Out.id (q _ _ ⟨(i, far), m2, h1, h2, s2, rfl, rfl⟩)⟩

def q52 : Rat := ⟨5, 2, by decide, by decide⟩
def fixC : List Pt := [(1, 2), (9, 4), (9, 30)]
def fixR (w : Nat) : List Rd := [⟨0, 1, [], 2⟩, ⟨1, 2, [(q52, 7)], w⟩]
theorem fix_D {w : Nat} (h : 1 ≤ w ∧ w ≤ 2) : WebD (fixC, fixR w) := by
  have hc : ∀ p ∈ fixC, inLand p ∧ GdP 1536 p := by
    intro p hp
    simp only [fixC, List.mem_cons, List.not_mem_nil, or_false] at hp
    rcases hp with rfl | rfl | rfl
    · exact ⟨⟨⟨by decide +kernel, by decide +kernel⟩, by decide +kernel, by decide +kernel⟩, ⟨24, by decide +kernel, by decide⟩, ⟨48, by decide +kernel, by decide⟩⟩
    · exact ⟨⟨⟨by decide +kernel, by decide +kernel⟩, by decide +kernel, by decide +kernel⟩, ⟨216, by decide +kernel, by decide⟩, ⟨96, by decide +kernel, by decide⟩⟩
    · exact ⟨⟨⟨by decide +kernel, by decide +kernel⟩, by decide +kernel, by decide +kernel⟩, ⟨216, by decide +kernel, by decide⟩, ⟨720, by decide +kernel, by decide⟩⟩
  have hm : inLand (q52, 7) ∧ GdP 1536 (q52, 7) := ⟨⟨⟨by decide +kernel, by decide +kernel⟩, by decide +kernel, by decide +kernel⟩, ⟨60, by decide +kernel, by decide⟩, ⟨168, by decide +kernel, by decide⟩⟩
  refine ⟨⟨by show (1 : Nat) ≤ 3; decide, by show (3 : Nat) ≤ 10; decide, fun p hp => (hc p hp).1, show fixC.Nodup by decide +kernel, by show (2 : Nat) ≤ 14; decide, fun r hr => ?_⟩, ⟨fun p hp => (hc p hp).2, fun r hr => ?_⟩, by show (3 : Nat) ≤ 6; decide, by show (2 : Nat) ≤ 6; decide, fun r hr => ?_⟩
  · rcases List.mem_cons.mp hr with rfl | hr
    · refine ⟨by show (0 : Nat) < 3; decide, by show (1 : Nat) < 3; decide, by decide, by decide, by decide, (fun p hp => by cases hp), ?_⟩
      intro x hx
      have : x ∈ [(((1, 2) : Pt), ((9, 4) : Pt))] := hx
      rw [List.mem_singleton.mp this]
      decide +kernel
    · rw [List.mem_singleton.mp hr]
      refine ⟨by show (1 : Nat) < 3; decide, by show (2 : Nat) < 3; decide, by show (1 : Nat) ≠ 2; decide, h, by show (1 : Nat) ≤ 4; decide, (fun p hp => by rw [List.mem_singleton.mp hp]; exact hm.1), ?_⟩
      intro x hx
      have : x ∈ [(((9, 4) : Pt), ((q52, 7) : Pt)), (((q52, 7) : Pt), ((9, 30) : Pt))] := hx
      simp only [List.mem_cons, List.not_mem_nil, or_false] at this
      rcases this with rfl | rfl <;> decide +kernel
  · rcases List.mem_cons.mp hr with rfl | hr
    · exact fun p hp => by cases hp
    · rw [List.mem_singleton.mp hr]
      exact fun p hp => by rw [List.mem_singleton.mp hp]; exact hm.2
  · rcases List.mem_cons.mp hr with rfl | hr
    · exact Nat.zero_le _
    · rw [List.mem_singleton.mp hr]
      show (1 : Nat) ≤ 2
      decide
def sp__law_roads : PSp := SpS (fun (a : Addr) => [.ref a]) (fun a S => ∃ m, S a = some m ∧ St3 m) fun a S p S' => ∃ W m, WebD W ∧ W.2 ≠ [] ∧ St3 m ∧ p = webP W ∧ S' = put S a m
def b__law_roads : PFS :=
  gSeq (gSet 1 (fCall sp__law_web [] noE (fCons (fVar 0) (fNil))))
    (gSeq (gIf (fBV (f2 oNe (f2 oIx (fVar 1) (fC (.int 1))) (fN oTup (fNil)))) (gRet (fVar 1)) (gNext))
    (gSeq (gSet 2 (fN oTup (fCons (fN oTup (fCons (fN oTup (fCons (fC (.int 1)) (fCons (fC (.int 1)) (fNil)))) (fCons (fN oTup (fCons (fC (.int 2)) (fCons (fC (.int 1)) (fNil)))) (fNil)))) (fCons (fN oTup (fCons (fN oTup (fCons (fC (.int 9)) (fCons (fC (.int 1)) (fNil)))) (fCons (fN oTup (fCons (fC (.int 4)) (fCons (fC (.int 1)) (fNil)))) (fNil)))) (fCons (fN oTup (fCons (fN oTup (fCons (fC (.int 9)) (fCons (fC (.int 1)) (fNil)))) (fCons (fN oTup (fCons (fC (.int 30)) (fCons (fC (.int 1)) (fNil)))) (fNil)))) (fNil))))))
    (gRet (fN oTup (fCons (fVar 2) (fCons (fN oTup (fCons (fN oTup (fCons (fC (.int 0)) (fCons (fC (.int 1)) (fCons (fN oTup (fNil)) (fCons (fC (.int 2)) (fNil)))))) (fCons (fN oTup (fCons (fC (.int 1)) (fCons (fC (.int 2)) (fCons (fN oTup (fCons (fN oTup (fCons (fN oTup (fCons (fC (.int 5)) (fCons (fC (.int 2)) (fNil)))) (fCons (fN oTup (fCons (fC (.int 7)) (fCons (fC (.int 1)) (fNil)))) (fNil)))) (fNil))) (fCons (f2 oAdd (fC (.int 1)) (fCall sp__law_choice [] noE (fCons (fVar 0) (fCons (fC (.int 2)) (fNil))))) (fNil)))))) (fNil)))) (fNil)))))))
theorem len__law_roads : ∀ (xs : List Pv) (S : Sto) (Q : QV) (E : QE), sp__law_roads xs S Q E → xs.length = 1 := SpS.len fun _ => rfl
theorem mono__law_roads : ∀ (xs : List Pv) (S : Sto) (Q Q' : QV) (E E' : QE), (∀ p S', Q p S' → Q' p S') → (∀ C S', E C S' → E' C S') → sp__law_roads xs S Q E → sp__law_roads xs S Q' E' := SpS.mono
theorem ex__law_roads {xs : List Pv} {S0 : Sto} {Q : QV} {Ep : QE} : sp__law_roads xs S0 Q Ep → b__law_roads (endD Q) (st0 3 xs) S0 := SpS.ex fun l S Q hm q => by
  refine ⟨l, rfl, hm, ?_⟩
  rintro _ _ ⟨W, m1, hW, s1, rfl, rfl⟩
  have ok : okD (.tup (W.2.map rdP)) = true := okD_rds hW.ok
  refine ⟨lz rfl, ⟨ok, rfl⟩, ?_⟩
  have en : PyData.eqv (toD (.tup (W.2.map rdP))) (toD (.tup [])) = decide (W.2 = []) := by
    cases W.2 with
    | nil => rfl
    | cons r rs => rfl
  show cnd (!PyData.eqv (toD (.tup (W.2.map rdP))) (toD (.tup []))) _ _
  rw [en]
  refine cnd_i (b := !decide (W.2 = [])) (fun e => ?_) (fun e => ?_)
  · exact Out.id (q _ _ ⟨W, m1, hW, of_decide_eq_false (by simpa using e), s1, rfl, rfl⟩)
  repeat refine ⟨lz rfl, ?_⟩
  try simp only [st0, wipeP, List.set_cons_zero, List.set_cons_succ, List.map_cons, List.map_nil, List.cons_append, List.nil_append, List.replicate_succ, List.replicate_zero, List.length_cons, List.length_nil, Nat.reduceSub, Nat.reduceAdd]
  repeat refine ⟨lz rfl, ?_⟩
  refine ⟨(l, 2), rfl, ⟨⟨_, put_same, s1⟩, (by decide : (0 : Int) < 2), (by decide : (2 : Int) < 2 ^ 64)⟩, ?_⟩
  rintro _ _ ⟨c, m2, c0, c1, s2, rfl, rfl⟩
  have c1 : c < 2 := c1
  obtain ⟨w, hw⟩ : ∃ n : Nat, 1 + c = (n : Int) := ⟨(1 + c).toNat, by omega⟩
  repeat refine ⟨lz rfl, ?_⟩
  rw [hw, put_put]
  exact Out.id (q _ _ ⟨(fixC, fixR w), m2, fix_D ⟨by omega, by omega⟩, by simp [fixR], s2, rfl, rfl⟩)

def frl (r : List Rat) : Pv := .lst (r.map fr)
def sp__law_ahead : PSp := SpF (fun (a : List Rat × List Rat) => [frl a.1, frl a.2]) (fun a => ((∀ x ∈ a.1, Sz 3900 x) ∧ ∀ x ∈ a.2, Sz 3900 x) ∧ a.1.length = a.2.length) fun a => .bl (lexL a.1 a.2)
def b__law_ahead : PFS :=
  gSeq (gBeg [2, 3] (gFor (fZip (fCons (fVar 0) (fCons (fVar 1) (fNil)))) (.tp [.nm 2, .nm 3]) (gEnd [2, 3] (gIf (fBV (f2 oNe (fVar 2) (fVar 3))) (gRet (fCall sp__law_less [] noE (fCons (fVar 2) (fCons (fVar 3) (fNil))))) (gNext)))))
    (gRet (f2 oLt (fN oLen (fCons (fVar 0) (fNil))) (fN oLen (fCons (fVar 1) (fNil)))))
theorem len__law_ahead : ∀ (xs : List Pv) (S : Sto) (Q : QV) (E : QE), sp__law_ahead xs S Q E → xs.length = 2 := SpF.len fun _ => rfl
theorem mono__law_ahead : ∀ (xs : List Pv) (S : Sto) (Q Q' : QV) (E E' : QE), (∀ p S', Q p S' → Q' p S') → (∀ C S', E C S' → E' C S') → sp__law_ahead xs S Q E → sp__law_ahead xs S Q' E' := SpF.mono
theorem ex__law_ahead {xs : List Pv} {S0 : Sto} {Q : QV} {Ep : QE} : sp__law_ahead xs S0 Q Ep → b__law_ahead (endD Q) (st0 4 xs) S0 := SpF.ex fun ⟨xs, ys⟩ S Q ⟨⟨h1, h2⟩, hl⟩ k => by
  have k : Q (.bl (lexL xs ys)) S := k
  have hl : xs.length = ys.length := hl
  conv => whnf
  rw [zip_frs]
  try simp only [st0, wipeP, List.set_cons_zero, List.set_cons_succ, List.map_cons, List.map_nil, List.cons_append, List.nil_append, List.replicate_succ, List.replicate_zero, List.length_cons, List.length_nil, Nat.reduceSub, Nat.reduceAdd]
  refine forW_a (fun z : Rat × Rat => .tup [fr z.1, fr z.2]) (xs.zip ys) (fun _ => [some (frl xs), some (frl ys), none, none]) (fun pre S2 => S2 = S ∧ ∀ z ∈ pre, z.1 = z.2) rfl rfl ⟨rfl, fun z hz => by cases hz⟩ ?_ ?_
  · rintro _ ⟨rfl, h⟩
    rw [lex_all xs ys h] at k
    refine ⟨⟨trivial, trivial⟩, Out.id ?_⟩
    have e : decide ((((xs.map fr).length : Nat) : Int) < (((ys.map fr).length : Nat) : Int)) = false := decide_eq_false (by rw [List.length_map, List.length_map]; omega)
    show Q (.bl (decide ((((xs.map fr).length : Nat) : Int) < (((ys.map fr).length : Nat) : Int)))) _
    rw [e]
    exact k
  · rintro pre ⟨x, y⟩ post e kk hk S2 ⟨rfl, h⟩
    have hm : (x, y) ∈ xs.zip ys := by rw [← e]; simp
    have hz := List.of_mem_zip hm
    refine ⟨⟨trivial, trivial⟩, ⟨okD_fr x, okD_fr y⟩, ?_⟩
    show cnd (!PyData.eqv (toD (fr x)) (toD (fr y))) _ _
    rw [eqv_fr]
    refine cnd_i (b := !decide (x = y)) (fun e2 => ?_) (fun e2 => ?_)
    · have e2 : x ≠ y := of_decide_eq_false (by simpa using e2)
      rw [lexL_pre pre xs ys h x y post e e2] at k
      exact ⟨(x, y), rfl, ⟨h1 x hz.1, h2 y hz.2⟩, Out.id k⟩
    · have e2 : x = y := of_decide_eq_true (by simpa using e2)
      refine hk _ ⟨rfl, fun z hz => ?_⟩
      rcases List.mem_append.mp hz with hz | hz
      · exact h z hz
      · rw [List.mem_singleton.mp hz]; exact e2

def sp__law_squared : PSp := SpF (fun (a : Pt × Pt) => [pt a.1, pt a.2]) (fun a => SzP 900 a.1 ∧ SzP 900 a.2) fun a => fr (sqR a.1 a.2)
def b__law_squared : PFS :=
  gSeq (gSet 2 (fN oTup (fCons (fC (.int 0)) (fCons (fC (.int 1)) (fNil)))))
    (gSeq (gBeg [3, 4] (gFor (fZip (fCons (fVar 0) (fCons (fVar 1) (fNil)))) (.tp [.nm 3, .nm 4]) (gEnd [3, 4] (gSet 2 (fCall sp__law_plus [] noE (fCons (fVar 2) (fCons (fCall sp__law_times [] noE (fCons (fCall sp__law_minus [] noE (fCons (fVar 3) (fCons (fVar 4) (fNil)))) (fCons (fCall sp__law_minus [] noE (fCons (fVar 3) (fCons (fVar 4) (fNil)))) (fNil)))) (fNil))))))))
    (gRet (fVar 2)))
theorem len__law_squared : ∀ (xs : List Pv) (S : Sto) (Q : QV) (E : QE), sp__law_squared xs S Q E → xs.length = 2 := SpF.len fun _ => rfl
theorem mono__law_squared : ∀ (xs : List Pv) (S : Sto) (Q Q' : QV) (E E' : QE), (∀ p S', Q p S' → Q' p S') → (∀ C S', E C S' → E' C S') → sp__law_squared xs S Q E → sp__law_squared xs S Q' E' := SpF.mono
theorem ex__law_squared {xs : List Pv} {S0 : Sto} {Q : QV} {Ep : QE} : sp__law_squared xs S0 Q Ep → b__law_squared (endD Q) (st0 5 xs) S0 := SpF.ex fun ⟨p, q⟩ S Q ⟨h1, h2⟩ k => by
  have h1 : SzP 900 p := h1
  have h2 : SzP 900 q := h2
  have k : Q (fr (sqR p q)) S := k
  have z0 : Sz 1 (0 : Rat) := Sz.zero.up (by decide)
  have w1 := h1.1.sub h2.1
  have w2 := h1.2.sub h2.2
  have s1 := w1.mul w1
  have s2 := w2.mul w2
  refine ⟨lz rfl, ?_⟩
  try simp only [st0, wipeP, List.set_cons_zero, List.set_cons_succ, List.map_cons, List.map_nil, List.cons_append, List.nil_append, List.replicate_succ, List.replicate_zero, List.length_cons, List.length_nil, Nat.reduceSub, Nat.reduceAdd]
  refine ⟨trivial, (p.1, q.1), rfl, ⟨h1.1.up (by decide), h2.1.up (by decide)⟩, (p.1, q.1), rfl, ⟨h1.1.up (by decide), h2.1.up (by decide)⟩, (p.1 - q.1, p.1 - q.1), rfl, ⟨w1.up (by decide), w1.up (by decide)⟩, (0, (p.1 - q.1) * (p.1 - q.1)), rfl, ⟨z0.up (by decide), s1.up (by decide)⟩, ?_⟩
  refine ⟨trivial, (p.2, q.2), rfl, ⟨h1.2.up (by decide), h2.2.up (by decide)⟩, (p.2, q.2), rfl, ⟨h1.2.up (by decide), h2.2.up (by decide)⟩, (p.2 - q.2, p.2 - q.2), rfl, ⟨w2.up (by decide), w2.up (by decide)⟩, (0 + (p.1 - q.1) * (p.1 - q.1), (p.2 - q.2) * (p.2 - q.2)), rfl, ⟨(z0.add s1).up (by decide), s2.up (by decide)⟩, ?_⟩
  refine ⟨trivial, Out.id ?_⟩
  have e : 0 + (p.1 - q.1) * (p.1 - q.1) + (p.2 - q.2) * (p.2 - q.2) = sqR p q := by rw [sqR_eq]; grind
  dsimp only
  rw [e]
  exact k

def sp__law_part : PSp := SpF (fun (a : Pt × Pt × Pt) => [pt a.1, pt a.2.1, pt a.2.2]) (fun a => (GdP 1536 a.1 ∧ GdP 1536 a.2.1 ∧ SzP 90 a.2.2) ∧ a.1 ≠ a.2.1) fun a => fr (nearS a.1 a.2.1 a.2.2)
def b__law_part : PFS :=
  gSeq (gPar 3 4 (fCons (fCall sp__law_squared [] noE (fCons (fVar 0) (fCons (fVar 1) (fNil)))) (fCons (fCall sp__law_squared [] noE (fCons (fVar 0) (fCons (fVar 2) (fNil)))) (fNil))))
    (gSeq (gSet 5 (fCall sp__law_over [] noE (fCons (fCall sp__law_plus [] noE (fCons (fVar 3) (fCons (fCall sp__law_minus [] noE (fCons (fVar 4) (fCons (fCall sp__law_squared [] noE (fCons (fVar 1) (fCons (fVar 2) (fNil)))) (fNil)))) (fNil)))) (fCons (fCall sp__law_times [] noE (fCons (fN oTup (fCons (fC (.int 2)) (fCons (fC (.int 1)) (fNil)))) (fCons (fVar 3) (fNil)))) (fNil)))))
    (gSeq (gIf (fBV (fCall sp__law_less [] noE (fCons (fVar 5) (fCons (fN oTup (fCons (fC (.int 0)) (fCons (fC (.int 1)) (fNil)))) (fNil))))) (gRet (fN oTup (fCons (fC (.int 0)) (fCons (fC (.int 1)) (fNil))))) (gNext))
    (gRet (fIf (fBV (fCall sp__law_less [] noE (fCons (fN oTup (fCons (fC (.int 1)) (fCons (fC (.int 1)) (fNil)))) (fCons (fVar 5) (fNil))))) (fN oTup (fCons (fC (.int 1)) (fCons (fC (.int 1)) (fNil)))) (fVar 5)))))
theorem len__law_part : ∀ (xs : List Pv) (S : Sto) (Q : QV) (E : QE), sp__law_part xs S Q E → xs.length = 3 := SpF.len fun _ => rfl
theorem mono__law_part : ∀ (xs : List Pv) (S : Sto) (Q Q' : QV) (E E' : QE), (∀ p S', Q p S' → Q' p S') → (∀ C S', E C S' → E' C S') → sp__law_part xs S Q E → sp__law_part xs S Q' E' := SpF.mono
theorem ex__law_part {xs : List Pv} {S0 : Sto} {Q : QV} {Ep : QE} : sp__law_part xs S0 Q Ep → b__law_part (endD Q) (st0 6 xs) S0 := SpF.ex fun ⟨p, q, x⟩ S Q ⟨⟨h1, h2, h3⟩, hn⟩ k => by
  have g1 : GdP 1536 p := h1
  have g2 : GdP 1536 q := h2
  have h3 : SzP 90 x := h3
  have hn : p ≠ q := hn
  have k : Q (fr (nearS p q x)) S := k
  have h1 := g1.sz
  have h2 := g2.sz
  have hp := lenR_pos hn
  have e1 : sqR p q = lenR p q := by rw [sqR_eq]; unfold lenR; grind
  have s1 := Sz.sqR h1 h2
  have s2 := Sz.sqR h1 h3
  have s3 := Sz.sqR h2 h3
  have two : Sz 2 (2 : Rat) := ⟨by unfold szI; decide, by unfold szI; decide⟩
  have s4 := s1.add (s2.sub s3)
  have s5 := two.mul s1
  have ne : 2 * sqR p q ≠ 0 := by rw [e1]; grind
  have s6 := s4.div s5 ne
  have pe := part_eq hn x
  refine ⟨(p, q), rfl, ⟨h1.up (by decide), h2.up (by decide)⟩, (p, x), rfl, ⟨h1.up (by decide), h3.up (by decide)⟩, ?_⟩
  try simp only [st0, wipeP, List.set_cons_zero, List.set_cons_succ, List.map_cons, List.map_nil, List.cons_append, List.nil_append, List.replicate_succ, List.replicate_zero, List.length_cons, List.length_nil, Nat.reduceSub, Nat.reduceAdd]
  refine ⟨(q, x), rfl, ⟨h2.up (by decide), h3.up (by decide)⟩, (sqR p x, sqR q x), rfl, ⟨s2.up (by decide), s3.up (by decide)⟩, (sqR p q, sqR p x - sqR q x), rfl, ⟨s1.up (by decide), (s2.sub s3).up (by decide)⟩, lz rfl, (2, sqR p q), rfl, ⟨two.up (by decide), s1.up (by decide)⟩, (sqR p q + (sqR p x - sqR q x), 2 * sqR p q), rfl, ⟨s4.up (by decide), s5.up (by decide), ne⟩, ?_⟩
  dsimp only
  rw [pe]
  rw [pe] at s6
  try simp only [st0, wipeP, List.set_cons_zero, List.set_cons_succ, List.map_cons, List.map_nil, List.cons_append, List.nil_append, List.replicate_succ, List.replicate_zero, List.length_cons, List.length_nil, Nat.reduceSub, Nat.reduceAdd]
  unfold nearS clampR at k
  refine ⟨lz rfl, (dotR p q x / lenR p q, 0), rfl, ⟨s6.up (by decide), Sz.zero.up (by decide)⟩, cnd_i (b := decide (dotR p q x / lenR p q < 0)) (fun e => ?_) (fun e => ?_)⟩
  · rw [if_pos (of_decide_eq_true e)] at k
    exact ⟨lz rfl, Out.id k⟩
  · rw [if_neg (of_decide_eq_false e)] at k
    refine ⟨lz rfl, (1, dotR p q x / lenR p q), rfl, ⟨Sz.one.up (by decide), s6.up (by decide)⟩, cnd_i (b := decide (1 < dotR p q x / lenR p q)) (fun e => ?_) (fun e => ?_)⟩
    · rw [if_pos (of_decide_eq_true e)] at k
      exact ⟨lz rfl, Out.id k⟩
    · rw [if_neg (of_decide_eq_false e)] at k
      exact Out.id k

def optR : Option (List Rat) → Pv
  | none => .non
  | some r => frl r
def sp__law_near : PSp := SpF (fun (a : Web × Pt) => [webP a.1, pt a.2]) (fun a => WebOk a.1 ∧ GdW a.1 ∧ SzP 90 a.2) fun a => nearV a.1 a.2
def b__law_near : PFS :=
  gSeq (gSet 2 (fC .non))
    (gSeq (gBeg [3, 4, 5, 6, 7, 8, 9, 10, 11] (gFor (fRng1 (fCons (fN oLen (fCons (f2 oIx (fVar 0) (fC (.int 1))) (fNil))) (fNil))) (.nm 3) (gEnd [3, 4, 5, 6, 7, 8, 9, 10, 11] (gSeq (gPar 4 5 (fCons (fCall sp__law_corners [] noE (fCons (fVar 0) (fCons (fVar 3) (fNil)))) (fCons (fN oTup (fCons (fC (.int 0)) (fCons (fC (.int 1)) (fNil)))) (fNil))))
    (gBeg [6, 7, 8, 9, 10, 11] (gFor (fZip (fCons (fVar 4) (fCons (fSl (fVar 4) (fPart (fC (.int 1))) (fNoPart)) (fNil)))) (.tp [.nm 6, .nm 7]) (gEnd [6, 7, 8, 9, 10, 11] (gSeq (gPar 8 9 (fCons (fCall sp__law_part [] noE (fCons (fVar 6) (fCons (fVar 7) (fCons (fVar 1) (fNil))))) (fCons (fCall sp__law_piece [] noE (fCons (fVar 6) (fCons (fVar 7) (fNil)))) (fNil))))
    (gSeq (gSet 10 (fCall sp__law_squared [] noE (fCons (fCall sp__law_between [] noE (fCons (fVar 6) (fCons (fVar 7) (fCons (fVar 8) (fNil))))) (fCons (fVar 1) (fNil)))))
    (gSeq (gSet 11 (fN oLst (fCons (fVar 10) (fCons (fN oTup (fCons (fVar 3) (fCons (fC (.int 1)) (fNil)))) (fCons (fCall sp__law_plus [] noE (fCons (fVar 5) (fCons (fCall sp__law_times [] noE (fCons (fVar 8) (fCons (fVar 9) (fNil)))) (fNil)))) (fNil))))))
    (gSeq (gIf (fOr (fBV (f2 oIs (fVar 2) (fC .non))) (fBV (fCall sp__law_ahead [] noE (fCons (fVar 11) (fCons (fVar 2) (fNil)))))) (gSet 2 (fVar 11)) (gNext))
    (gSet 5 (fCall sp__law_plus [] noE (fCons (fVar 5) (fCons (fVar 9) (fNil))))))))))))))))
    (gRet (fIf (fBV (f2 oIs (fVar 2) (fC .non))) (fC .non) (fN oTup (fCons (f2 oIx (fVar 2) (fC (.int 0))) (fCons (f2 oIx (f2 oIx (fVar 2) (fC (.int 1))) (fC (.int 0))) (fCons (f2 oIx (fVar 2) (fC (.int 2))) (fNil))))))))
theorem len__law_near : ∀ (xs : List Pv) (S : Sto) (Q : QV) (E : QE), sp__law_near xs S Q E → xs.length = 2 := SpF.len fun _ => rfl
theorem mono__law_near : ∀ (xs : List Pv) (S : Sto) (Q Q' : QV) (E E' : QE), (∀ p S', Q p S' → Q' p S') → (∀ C S', E C S' → E' C S') → sp__law_near xs S Q E → sp__law_near xs S Q' E' := SpF.mono
theorem fold_in {rs : List (List Rat)} : ∀ (l : List (List Rat)) (o : Option (List Rat)), (∀ r ∈ l, r ∈ rs) → (∀ f, o = some f → f ∈ rs) → ∀ f, l.foldl stepN o = some f → f ∈ rs
  | [], o, _, h, f, e => h f e
  | r :: l, o, hl, h, f, e => by
    refine fold_in l (stepN o r) (fun z hz => hl z (List.mem_cons_of_mem _ hz)) (fun g eg => ?_) f e
    cases o with
    | none => cases eg; exact hl r List.mem_cons_self
    | some g' =>
      have eg : some (if lexL r g' then r else g') = some g := eg
      cases eg
      split
      · exact hl r List.mem_cons_self
      · exact h g' rfl
set_option maxHeartbeats 1000000 in
theorem ex__law_near {xs : List Pv} {S0 : Sto} {Q : QV} {Ep : QE} : sp__law_near xs S0 Q Ep → b__law_near (endD Q) (st0 12 xs) S0 := SpF.ex fun ⟨W, x⟩ S Q ⟨hW, hs, hx⟩ k => by
  have hW : WebOk W := hW
  have hs : GdW W := hs
  have hx : SzP 90 x := hx
  have k : Q (nearV W x) S := k
  have hr := hW.r
  have hm : ∀ r ∈ rowsW W x, ∃ u v w, r = [u, v, w] ∧ Sz 1573 u ∧ Sz 16 v ∧ Sz 309 w := fun r hr => by
    obtain ⟨i, pre, c, post, hi, ep, er⟩ := rowsW_mem hr
    obtain ⟨z1, z2, z3⟩ := row_sz hW hs hx hi ep
    exact ⟨_, _, _, er, z1, z2, z3⟩
  have hb : bnd (((W.2.map rdP).length : Nat) : Int) := by rw [List.length_map]; exact ⟨by omega, by omega⟩
  refine ⟨hb, ?_⟩
  try simp only [st0, wipeP, List.set_cons_zero, List.set_cons_succ, List.map_cons, List.map_nil, List.cons_append, List.nil_append, List.replicate_succ, List.replicate_zero, List.length_cons, List.length_nil, Nat.reduceSub, Nat.reduceAdd]
  show forW _ _ _ _ (rngP 0 (((W.2.map rdP).length : Nat) : Int)) _ _
  rw [rng_natB, Int.toNat_natCast, List.length_map]
  refine forW_a (fun (j : Nat) => .int (j : Int)) (List.range W.2.length) (fun pre => [some (webP W), some (pt x), some (optR ((pre.flatMap (rowsI W x)).foldl stepN none)), none, none, none, none, none, none, none, none, none]) (fun pre S2 => S = S2) rfl rfl rfl ?_ ?_
  rotate_left
  · rintro pre j post e kk hk _ rfl
    have hj : j < W.2.length := by
      have : j ∈ List.range W.2.length := by rw [← e]; simp
      exact List.mem_range.mp this
    refine ⟨trivial, (W, j), rfl, ⟨hW, hj⟩, lz rfl, ?_⟩
    try simp only [st0, wipeP, List.set_cons_zero, List.set_cons_succ, List.map_cons, List.map_nil, List.cons_append, List.nil_append, List.replicate_succ, List.replicate_zero, List.length_cons, List.length_nil, Nat.reduceSub, Nat.reduceAdd]
    conv => whnf
    rw [cut_tail, pcs_map]
    refine forW_a pcP (pcsW W j) (fun p2 => [some (webP W), some (pt x), some (optR ((pre.flatMap (rowsI W x) ++ rowsP x j p2 0).foldl stepN none)), some (.int j), some (.lst ((lineW W j).map pt)), some (fr (sumR (p2.map stP))), none, none, none, none, none, none]) (fun p2 S3 => S = S3) rfl (by rw [show rowsP x j [] 0 = [] from rfl, List.append_nil]; rfl) rfl ?_ ?_
    · rintro _ rfl
      refine ⟨⟨trivial, trivial⟩, ?_⟩
      have := hk _ rfl
      rw [List.flatMap_append, List.flatMap_singleton] at this
      exact this
    · rintro p2 c post2 e2 kk2 hk2 _ rfl
      obtain ⟨g1, g2⟩ := pre_gd ⟨hW, hj⟩ hs e2
      have hc : c ∈ pcsW W j := by rw [← e2]; simp
      obtain ⟨c1, c2, c3⟩ := g2 c hc
      have hn := (hW.rd _ (rdAt_mem hj)).apart c hc
      have zn := Sz.near c2 c3 hx hn
      have zs := SzP.share c2 c3 zn
      have z1 : Sz 16 (sumR (p2.map stP)) := g1.sz (by decide) (by decide)
      have z2 : Sz 13 (stP c) := c1.sz (by decide) (by decide)
      obtain ⟨y1, y2, y3⟩ := row_sz hW hs hx hj e2
      refine ⟨⟨trivial, trivial⟩, (c.1, c.2, x), rfl, ⟨⟨c2, c3, hx⟩, hn⟩, (c.1, c.2), rfl, ⟨c2.sz.up (by decide), c3.sz.up (by decide)⟩, ?_⟩
      try simp only [st0, wipeP, List.set_cons_zero, List.set_cons_succ, List.map_cons, List.map_nil, List.cons_append, List.nil_append, List.replicate_succ, List.replicate_zero, List.length_cons, List.length_nil, Nat.reduceSub, Nat.reduceAdd]
      refine ⟨(c.1, c.2, nearS c.1 c.2 x), rfl, ⟨c2.sz.up (by decide), c3.sz.up (by decide), zn.up (by decide)⟩, (shareR c.1 c.2 (nearS c.1 c.2 x), x), rfl, ⟨zs.up (by decide), hx.up (by decide)⟩, ?_⟩
      try simp only [st0, wipeP, List.set_cons_zero, List.set_cons_succ, List.map_cons, List.map_nil, List.cons_append, List.nil_append, List.replicate_succ, List.replicate_zero, List.length_cons, List.length_nil, Nat.reduceSub, Nat.reduceAdd]
      refine ⟨lz rfl, (nearS c.1 c.2 x, stP c), rfl, ⟨zn.up (by decide), z2.up (by decide)⟩, (sumR (p2.map stP), nearS c.1 c.2 x * stP c), rfl, ⟨z1.up (by decide), (zn.mul z2).up (by decide)⟩, lz rfl, ?_⟩
      try simp only [st0, wipeP, List.set_cons_zero, List.set_cons_succ, List.map_cons, List.map_nil, List.cons_append, List.nil_append, List.replicate_succ, List.replicate_zero, List.length_cons, List.length_nil, Nat.reduceSub, Nat.reduceAdd]
      have hk3 := hk2 _ rfl
      rw [rowsP_snoc, ← List.append_assoc, List.foldl_append (l' := [_]), List.map_append, List.map_singleton, sumR_snoc] at hk3
      have hk3 : kk2 [some (webP W), some (pt x), some (optR (stepN ((pre.flatMap (rowsI W x) ++ rowsP x j p2 0).foldl stepN none) (rowN x j (sumR (p2.map stP)) c))), some (.int j), some (.lst ((lineW W j).map pt)), some (fr (sumR (p2.map stP) + stP c)), none, none, none, none, none, none] S := hk3
      have hin : ∀ f, (pre.flatMap (rowsI W x) ++ rowsP x j p2 0).foldl stepN none = some f → f ∈ rowsW W x := fold_in _ none (fun r hr => by
        rcases List.mem_append.mp hr with hr | hr
        · obtain ⟨i, hi, hr⟩ := List.mem_flatMap.mp hr
          exact List.mem_flatMap.mpr ⟨i, by rw [← e]; exact List.mem_append_left _ hi, hr⟩
        · obtain ⟨a1, a2, a3, a4, a5⟩ := (rowsP_mem x j _ _ r).mp hr
          refine List.mem_flatMap.mpr ⟨j, List.mem_range.mpr hj, (rowsP_mem x j _ _ r).mpr ⟨a1, a2, a3 ++ c :: post2, ?_, a5⟩⟩
          rw [← e2, ← a4]
          simp) fun f h => by cases h
      generalize (pre.flatMap (rowsI W x) ++ rowsP x j p2 0).foldl stepN none = o at hk3 hin ⊢
      cases o with
      | none =>
        refine ⟨(sumR (p2.map stP), stP c), rfl, ⟨z1.up (by decide), z2.up (by decide)⟩, ?_⟩
        exact hk3
      | some f =>
        obtain ⟨u, v, w, rfl, f1, f2, f3⟩ := hm f (hin f rfl)
        refine ⟨(rowN x j (sumR (p2.map stP)) c, [u, v, w]), rfl, ⟨⟨fun y hy => ?_, fun y hy => ?_⟩, rfl⟩, ?_⟩
        · simp only [rowN, List.mem_cons, List.not_mem_nil, or_false] at hy
          rcases hy with rfl | rfl | rfl
          · exact y1.up (by decide)
          · exact y2.up (by decide)
          · exact y3.up (by decide)
        · simp only [List.mem_cons, List.not_mem_nil, or_false] at hy
          rcases hy with rfl | rfl | rfl
          · exact f1.up (by decide)
          · exact f2.up (by decide)
          · exact f3.up (by decide)
        have hk3 : kk2 [some (webP W), some (pt x), some (frl (if lexL (rowN x j (sumR (p2.map stP)) c) [u, v, w] then rowN x j (sumR (p2.map stP)) c else [u, v, w])), some (.int j), some (.lst ((lineW W j).map pt)), some (fr (sumR (p2.map stP) + stP c)), none, none, none, none, none, none] S := hk3
        refine cnd_i (b := lexL (rowN x j (sumR (p2.map stP)) c) [u, v, w]) (fun e3 => ?_) (fun e3 => ?_)
        · rw [e3] at hk3
          exact ⟨(sumR (p2.map stP), stP c), rfl, ⟨z1.up (by decide), z2.up (by decide)⟩, hk3⟩
        · rw [e3] at hk3
          exact ⟨(sumR (p2.map stP), stP c), rfl, ⟨z1.up (by decide), z2.up (by decide)⟩, hk3⟩
  rintro _ rfl
  refine ⟨trivial, ?_⟩
  have ew : (List.range W.2.length).flatMap (rowsI W x) = rowsW W x := rfl
  rw [ew]
  by_cases e : rowsW W x = []
  · unfold nearV at k
    rw [e] at k ⊢
    exact Out.id k
  have hk : Q (rowV (leastL (rowsW W x))) S := by
    unfold nearV at k
    cases hq : rowsW W x with
    | nil => exact (e hq).elim
    | cons r rs => rw [hq] at k; exact k
  obtain ⟨u, v, w, el, _⟩ := hm _ (least_mem e fun r hr => by obtain ⟨u, v, w, er, _⟩ := hm r hr; exact ⟨u, [v, w], er⟩).1
  rw [nearO e, el]
  rw [el] at hk
  exact ⟨lz rfl, Out.id hk⟩

def sp__law_none_nearer : PSp := SpF (fun (a : Web × Pt × Rat) => [webP a.1, pt a.2.1, fr a.2.2]) (fun a => (WebOk a.1 ∧ GdW a.1 ∧ SzP 90 a.2.1) ∧ Sz 3900 a.2.2 ∧ ∀ i far, SpotOk a.1 (i, far) → ¬ sqR (pointW a.1 (i, far)) a.2.1 < a.2.2) fun _ => .bl true
def b__law_none_nearer : PFS :=
  gSeq (gBeg [3, 4, 5] (gFor (fRng1 (fCons (fN oLen (fCons (f2 oIx (fVar 0) (fC (.int 1))) (fNil))) (fNil))) (.nm 3) (gEnd [3, 4, 5] (gBeg [4, 5] (gFor (fRng1 (fCons (fC (.int 13)) (fNil))) (.nm 4) (gEnd [4, 5] (gSeq (gSet 5 (fCall sp__law_times [] noE (fCons (fCall sp__law_long [] noE (fCons (fVar 0) (fCons (fVar 3) (fNil)))) (fCons (fCall sp__law_low [] noE (fCons (fVar 4) (fCons (fC (.int 12)) (fNil)))) (fNil)))))
    (gIf (fBV (fCall sp__law_less [] noE (fCons (fCall sp__law_squared [] noE (fCons (fCall sp__law_at [] noE (fCons (fVar 0) (fCons (fVar 3) (fCons (fVar 5) (fNil))))) (fCons (fVar 1) (fNil)))) (fCons (fVar 2) (fNil))))) (gRet (fC (.bl false))) (gNext)))))))))
    (gRet (fC (.bl true)))
theorem len__law_none_nearer : ∀ (xs : List Pv) (S : Sto) (Q : QV) (E : QE), sp__law_none_nearer xs S Q E → xs.length = 3 := SpF.len fun _ => rfl
theorem mono__law_none_nearer : ∀ (xs : List Pv) (S : Sto) (Q Q' : QV) (E E' : QE), (∀ p S', Q p S' → Q' p S') → (∀ C S', E C S' → E' C S') → sp__law_none_nearer xs S Q E → sp__law_none_nearer xs S Q' E' := SpF.mono
theorem ex__law_none_nearer {xs : List Pv} {S0 : Sto} {Q : QV} {Ep : QE} : sp__law_none_nearer xs S0 Q Ep → b__law_none_nearer (endD Q) (st0 6 xs) S0 := SpF.ex fun ⟨W, x, off⟩ S Q ⟨⟨hW, hs, hx⟩, ho, hn⟩ k => by
  have hW : WebOk W := hW
  have hs : GdW W := hs
  have hx : SzP 90 x := hx
  have ho : Sz 3900 off := ho
  have hn : ∀ i far, SpotOk W (i, far) → ¬ sqR (pointW W (i, far)) x < off := hn
  have hr := hW.r
  have hb : bnd (((W.2.map rdP).length : Nat) : Int) := by rw [List.length_map]; exact ⟨by omega, by omega⟩
  refine ⟨hb, ?_⟩
  try simp only [st0, wipeP, List.set_cons_zero, List.set_cons_succ, List.map_cons, List.map_nil, List.cons_append, List.nil_append, List.replicate_succ, List.replicate_zero, List.length_cons, List.length_nil, Nat.reduceSub, Nat.reduceAdd]
  refine forW_c (P := fun x => ∃ k : Nat, x = .int k ∧ (k : Int) < (((W.2.map rdP).length : Nat) : Int)) (fun S2 => S = S2) (fun x hx => rng_memB hx) rfl (fun S2 h => ⟨trivial, by rw [← h]; exact Out.id k⟩) ?_
  rintro _ ⟨j, rfl, hj⟩ kk hk _ rfl
  rw [List.length_map] at hj
  have hj : j < W.2.length := by omega
  have hS : WebS (W, j) := ⟨⟨hW, hj⟩, hs⟩
  have zl : Sz 16 (longW W j) := (pre_sz hS.1 hs (pre := pcsW W j) (post := []) (by simp)).1
  refine ⟨trivial, ⟨by decide, by decide⟩, ?_⟩
  try simp only [st0, wipeP, List.set_cons_zero, List.set_cons_succ, List.map_cons, List.map_nil, List.cons_append, List.nil_append, List.replicate_succ, List.replicate_zero, List.length_cons, List.length_nil, Nat.reduceSub, Nat.reduceAdd]
  refine forW_c (P := fun x => ∃ k : Nat, x = .int k ∧ (k : Int) < 13) (fun S3 => S = S3) (fun x hx => rng_memB hx) rfl (fun S3 h => ⟨trivial, hk _ h⟩) ?_
  rintro _ ⟨t, rfl, ht⟩ kk2 hk2 _ rfl
  have st : szI 7 (t : Int) := by unfold szI; omega
  have sb : szI 7 (12 : Int) := by unfold szI; decide
  have sd := divInt_sz (show (12 : Int) ≠ 0 by decide) st sb
  have p0 : (0 : Rat) ≤ Rat.divInt t 12 := Rat.divInt_nonneg (by omega) (by decide)
  have p1 : Rat.divInt t 12 ≤ 1 := div_le_one (by decide) (by omega)
  have ln := long_nn W j
  have sp : SpotOk W (j, longW W j * Rat.divInt t 12) := ⟨hj, Rat.mul_nonneg ln p0, by
    have := Rat.mul_le_mul_of_nonneg_left p1 ln
    rw [Rat.mul_one] at this
    exact this⟩
  have zf : Sz 24 (longW W j * Rat.divInt t 12) := (zl.mul sd).up (by decide)
  have zp := pointW_sz (s := (j, longW W j * Rat.divInt t 12)) ⟨hW, hj⟩ hs zf
  refine ⟨trivial, (W, j), rfl, hS, ((t : Int), 12), rfl, ⟨show (12 : Int) ≠ 0 by decide, st.up (by decide), sb.up (by decide)⟩, (longW W j, Rat.divInt t 12), rfl, ⟨zl.up (by decide), sd.up (by decide)⟩, ?_⟩
  try simp only [st0, wipeP, List.set_cons_zero, List.set_cons_succ, List.map_cons, List.map_nil, List.cons_append, List.nil_append, List.replicate_succ, List.replicate_zero, List.length_cons, List.length_nil, Nat.reduceSub, Nat.reduceAdd]
  refine ⟨(W, (j, longW W j * Rat.divInt t 12)), rfl, ⟨⟨hW, hs⟩, sp, zf.up (by decide)⟩, (pointW W (j, longW W j * Rat.divInt t 12), x), rfl, ⟨zp.up (by decide), hx.up (by decide)⟩, (sqR (pointW W (j, longW W j * Rat.divInt t 12)) x, off), rfl, ⟨(Sz.sqR zp hx).up (by decide), ho⟩, ?_⟩
  exact cnd_f (b := decide (sqR (pointW W (j, longW W j * Rat.divInt t 12)) x < off)) (decide_eq_false (hn _ _ sp)) (hk2 _ rfl)

def sp__law_points : PSp := SpS (fun (a : Addr × Web) => [.ref a.1, webP a.2]) (fun a S => (∃ m, S a.1 = some m ∧ St3 m) ∧ (WebOk a.2 ∧ GdW a.2) ∧ a.2.2 ≠ []) fun a S p S' => ∃ (ps : List Pt) (m : Mo), (∀ x ∈ ps, SzP 90 x) ∧ St3 m ∧ p = .lst (ps.map pt) ∧ S' = put S a.1 m
def b__law_points : PFS :=
  gSeq (gSet 2 (fCall sp__law_spot [] noE (fCons (fVar 0) (fCons (fVar 1) (fNil)))))
    (gRet (fN oLst (fCons (fCall sp__law_land_point [] noE (fCons (fVar 0) (fNil))) (fCons (fCall sp__law_any_point [] noE (fCons (fVar 0) (fNil))) (fCons (fCall sp__law_at [] noE (fCons (fVar 1) (fCons (f2 oIx (fVar 2) (fC (.int 0))) (fCons (f2 oIx (fVar 2) (fC (.int 1))) (fNil))))) (fCons (f2 oIx (f2 oIx (fVar 1) (fC (.int 0))) (fC (.int 0))) (fNil)))))))
theorem len__law_points : ∀ (xs : List Pv) (S : Sto) (Q : QV) (E : QE), sp__law_points xs S Q E → xs.length = 2 := SpS.len fun _ => rfl
theorem mono__law_points : ∀ (xs : List Pv) (S : Sto) (Q Q' : QV) (E E' : QE), (∀ p S', Q p S' → Q' p S') → (∀ C S', E C S' → E' C S') → sp__law_points xs S Q E → sp__law_points xs S Q' E' := SpS.mono
theorem ex__law_points {xs : List Pv} {S0 : Sto} {Q : QV} {Ep : QE} : sp__law_points xs S0 Q Ep → b__law_points (endD Q) (st0 3 xs) S0 := SpS.ex fun ⟨l, W⟩ S Q ⟨hm, ⟨hW, hs⟩, hn⟩ q => by
  have hW : WebOk W := hW
  have hs : GdW W := hs
  have hn : W.2 ≠ [] := hn
  refine ⟨(l, W), rfl, ⟨hm, ⟨hW, hs⟩, hn⟩, ?_⟩
  rintro _ _ ⟨s, m1, h1, h2, s1, rfl, rfl⟩
  refine ⟨l, rfl, ⟨_, put_same, s1⟩, ?_⟩
  rintro _ _ ⟨p1, m2, hp1, hp1', s2, rfl, rfl⟩
  refine ⟨l, rfl, ⟨_, put_same, s2⟩, ?_⟩
  rintro _ _ ⟨p2, m3, hp2, s3, rfl, rfl⟩
  refine ⟨(W, s), rfl, ⟨⟨hW, hs⟩, h1, h2.up (by decide)⟩, ?_⟩
  obtain ⟨c, cs, ec⟩ := List.exists_cons_of_ne_nil (List.ne_nil_of_length_pos hW.c1)
  have zp := pointW_sz (s := s) ⟨hW, h1.i⟩ hs h2
  show match atI (W.1.map pt) 0 with | some p => _ | none => False
  rw [ec, List.map_cons, at0, put_put, put_put]
  refine ⟨lz rfl, Out.id (q _ _ ⟨[p1, p2, pointW W s, c], m3, fun x hx => ?_, s3, rfl, rfl⟩)⟩
  simp only [List.mem_cons, List.not_mem_nil, or_false] at hx
  rcases hx with rfl | rfl | rfl | rfl
  · exact hp1.sz.up (by decide)
  · exact SzP.up hp2 (by decide)
  · exact zp
  · exact (hs.c _ (by rw [ec]; simp)).sz.up (by decide)

theorem one_ok : WebOk ([(1, 1)], []) := ⟨by decide, by decide, fun p hp => by rw [List.mem_singleton.mp hp]; exact ⟨⟨by decide, by decide⟩, by decide, by decide⟩, by simp, by decide, fun r hr => by cases hr⟩
theorem one_gd : GdW ([(1, 1)], []) := ⟨fun p hp => by rw [List.mem_singleton.mp hp]; exact ⟨⟨24, by decide +kernel, by decide⟩, ⟨24, by decide +kernel, by decide⟩⟩, fun r hr => by cases hr⟩
theorem rows_ne {W : Web} (h : W.2 ≠ []) (x : Pt) : rowsW W x ≠ [] := fun e => by
  have hl := List.length_pos_iff.mpr h
  obtain ⟨c, cs, ec⟩ := List.exists_cons_of_ne_nil (pcs_ne (W := W) (i := 0))
  have : rowN x 0 0 c ∈ rowsW W x := List.mem_flatMap.mpr ⟨0, List.mem_range.mpr hl, by unfold rowsI; rw [ec]; exact List.mem_cons_self⟩
  rw [e] at this
  cases this
def sp_law : PSp := SpS (fun (ns : List Int) => [.scr (ns.map .int)]) (fun ns _ => ns.length ≤ 63) fun _ _ p _ => p = .bl true
def b_law : PFS :=
  gSeq (gBeg [1, 2, 3, 4, 5] (gFor (fRng1 (fCons (fN oMax (fCons (fC (.int 1)) (fCons (fN oMin (fCons (fN oLen (fCons (fVar 0) (fNil))) (fCons (fC (.int 4)) (fNil)))) (fNil)))) (fNil))) (.nm 1) (gEnd [1, 2, 3, 4, 5] (gSeq (gSet 2 (fCall sp__law_state [] noE (fCons (fVar 0) (fCons (fVar 1) (fNil)))))
    (gSeq (gSet 3 (fCall sp__law_roads [] noE (fCons (fVar 2) (fNil))))
    (gBeg [4, 5] (gFor (fIt (fCall sp__law_points [] noE (fCons (fVar 2) (fCons (fVar 3) (fNil))))) (.nm 4) (gEnd [4, 5] (gSeq (gSet 5 (fCall sp__law_near [] noE (fCons (fVar 3) (fCons (fVar 4) (fNil)))))
    (gSeq (gIf (fNot (fBV (fCall sp__law_same [] noE (fCons (fN oLst (fCons (fCall sp_nearest_spot [] noE (fCons (fVar 3) (fCons (fVar 4) (fNil)))) (fCons (fCall sp_nearest_spot [] noE (fCons (fVar 3) (fCons (fVar 4) (fNil)))) (fNil)))) (fCons (fN oLst (fCons (fVar 5) (fCons (fVar 5) (fNil)))) (fNil)))))) (gRet (fC (.bl false))) (gNext))
    (gIf (fOr (fBV (f2 oNe (fCall sp__law_squared [] noE (fCons (fCall sp__law_at [] noE (fCons (fVar 3) (fCons (f2 oIx (fVar 5) (fC (.int 1))) (fCons (f2 oIx (fVar 5) (fC (.int 2))) (fNil))))) (fCons (fVar 4) (fNil)))) (f2 oIx (fVar 5) (fC (.int 0))))) (fNot (fBV (fCall sp__law_none_nearer [] noE (fCons (fVar 3) (fCons (fVar 4) (fCons (f2 oIx (fVar 5) (fC (.int 0))) (fNil)))))))) (gRet (fC (.bl false))) (gNext))))))))))))
    (gRet (f2 oIs (fCall sp_nearest_spot [] noE (fCons (fN oTup (fCons (fN oTup (fCons (fN oTup (fCons (fN oTup (fCons (fC (.int 1)) (fCons (fC (.int 1)) (fNil)))) (fCons (fN oTup (fCons (fC (.int 1)) (fCons (fC (.int 1)) (fNil)))) (fNil)))) (fNil))) (fCons (fN oTup (fNil)) (fNil)))) (fCons (fN oTup (fCons (fN oTup (fCons (fC (.int 0)) (fCons (fC (.int 1)) (fNil)))) (fCons (fN oTup (fCons (fC (.int 0)) (fCons (fC (.int 1)) (fNil)))) (fNil)))) (fNil)))) (fC .non)))
theorem len_law : ∀ (xs : List Pv) (S : Sto) (Q : QV) (E : QE), sp_law xs S Q E → xs.length = 1 := SpS.len fun _ => rfl
theorem mono_law : ∀ (xs : List Pv) (S : Sto) (Q Q' : QV) (E E' : QE), (∀ p S', Q p S' → Q' p S') → (∀ C S', E C S' → E' C S') → sp_law xs S Q E → sp_law xs S Q' E' := SpS.mono
theorem sp_law_at {ns : List Int} {Q : QV} (hl : ns.length ≤ 63) (hq : ∀ S, Q (.bl true) S) : sp_law [.scr (ns.map .int)] (fun _ => none) Q noE := ⟨ns, rfl, hl, fun p S' e => by cases e; exact hq _⟩
theorem ex_law {xs : List Pv} {S0 : Sto} {Q : QV} {Ep : QE} : sp_law xs S0 Q Ep → b_law (endD Q) (st0 6 xs) S0 := SpS.ex fun ns S Q hl q => by
  refine ⟨?_, ?_⟩
  · unfold bnd
    split <;> (try split) <;> (simp only [List.length_map] at *; constructor <;> omega)
  try simp only [st0, wipeP, List.set_cons_zero, List.set_cons_succ, List.map_cons, List.map_nil, List.cons_append, List.nil_append, List.replicate_succ, List.replicate_zero, List.length_cons, List.length_nil, Nat.reduceSub, Nat.reduceAdd]
  refine forW_c (P := fun x => ∃ k : Nat, x = .int k) (fun _ => True) (fun x hx => rng_mem hx) trivial (fun S _ => ⟨trivial, ?_⟩) ?_
  · refine ⟨lz rfl, lz rfl, lz rfl, lz rfl, lz rfl, lz rfl, lz rfl, lz rfl, lz rfl, (([(1, 1)], []), (0, 0)), rfl, ⟨⟨one_ok, one_gd⟩, ⟨Sz.zero.up (by decide), Sz.zero.up (by decide)⟩⟩, Out.id (q _ _ rfl)⟩
  rintro _ ⟨k, rfl⟩ kk hk S -
  refine ⟨trivial, (ns, k), rfl, trivial, ?_⟩
  rintro _ _ ⟨l, m, hl0, sm, rfl, rfl⟩
  refine ⟨l, rfl, ⟨_, put_same, sm⟩, ?_⟩
  rintro _ _ ⟨W, m1, hW, hWn, s1, rfl, rfl⟩
  refine ⟨(l, W), rfl, ⟨⟨_, put_same, s1⟩, ⟨hW.ok, hW.sz⟩, hWn⟩, ?_⟩
  rintro _ _ ⟨ps, m2, hps, s2, rfl, rfl⟩
  try simp only [st0, wipeP, List.set_cons_zero, List.set_cons_succ, List.map_cons, List.map_nil, List.cons_append, List.nil_append, List.replicate_succ, List.replicate_zero, List.length_cons, List.length_nil, Nat.reduceSub, Nat.reduceAdd]
  refine forW_c (P := fun p => ∃ x, p = pt x ∧ SzP 90 x) (fun _ => True) (fun p hp => by obtain ⟨x, hx, rfl⟩ := List.mem_map.mp hp; exact ⟨x, rfl, hps x hx⟩) trivial (fun S _ => ⟨trivial, hk _ trivial⟩) ?_
  rintro _ ⟨x, rfl, hx⟩ kk2 hk2 S2 -
  have e := rows_ne hWn x
  have hm : ∀ r ∈ rowsW W x, ∃ i pre c post, i < W.2.length ∧ pre ++ c :: post = pcsW W i ∧ r = rowN x i (sumR (pre.map stP)) c := fun r hr => rowsW_mem hr
  obtain ⟨lm, ll⟩ := least_mem e fun r hr => by obtain ⟨i, pre, c, post, _, _, er⟩ := hm r hr; exact ⟨_, _, er⟩
  obtain ⟨i, pre, c, post, hi, ep, er⟩ := hm _ lm
  obtain ⟨y1, y2, y3⟩ := row_sz hW.ok hW.sz hx hi ep
  have cl : 0 ≤ nearS c.1 c.2 x ∧ nearS c.1 c.2 x ≤ 1 := clamp_in _
  have ev : nearV W x = .tup [fr (sqR (shareR c.1 c.2 (nearS c.1 c.2 x)) x), .int i, fr (sumR (pre.map stP) + nearS c.1 c.2 x * stP c)] := by
    unfold nearV
    cases hq : rowsW W x with
    | nil => exact (e hq).elim
    | cons r rs =>
      show rowV (leastL (r :: rs)) = _
      rw [← hq, er]
      rfl
  have sp := row_spot (x := x) hi ep
  have zf : Sz 309 (sumR (pre.map stP) + nearS c.1 c.2 x * stP c) := y3
  have ok : okR (.lst [nearV W x, nearV W x]) := by
    rw [ev]
    have a : Sh 3900 2 (.tup [fr (sqR (shareR c.1 c.2 (nearS c.1 c.2 x)) x), .int i, fr (sumR (pre.map stP) + nearS c.1 c.2 x * stP c)]) := (Sh.tup (d := 1) (Shs.cons (Sh.fr y1 (by decide)) (Shs.cons (Sh.int (n := 16) (by have := hW.r6; unfold szI; omega) (by decide)) (Shs.cons (Sh.fr y3 (by decide)) Shs.nil)))).up (by decide) (by decide)
    exact (Sh.lst (Shs.cons a (Shs.cons a Shs.nil))).ok (by decide) (by decide)
  refine ⟨trivial, (W, x), rfl, ⟨hW.ok, hW.sz, hx⟩, ?_⟩
  try simp only [st0, wipeP, List.set_cons_zero, List.set_cons_succ, List.map_cons, List.map_nil, List.cons_append, List.nil_append, List.replicate_succ, List.replicate_zero, List.length_cons, List.length_nil, Nat.reduceSub, Nat.reduceAdd]
  refine ⟨(W, x), rfl, ⟨⟨hW.ok, hW.sz⟩, hx⟩, (W, x), rfl, ⟨⟨hW.ok, hW.sz⟩, hx⟩, lz rfl, lz rfl, (_, _), rfl, ⟨ok, ok⟩, ?_⟩
  intro b eb
  have eb : b = true := eb.trans (decide_eq_true rfl)
  subst eb
  dsimp only
  rw [ev]
  have ea := at_row hW.ok hi ep cl.1 cl.2
  have zp := pointW_szN (s := (i, sumR (pre.map stP) + nearS c.1 c.2 x * stP c)) ⟨hW.ok, hi⟩ hW.sz y3
  refine ⟨(W, (i, sumR (pre.map stP) + nearS c.1 c.2 x * stP c)), rfl, ⟨⟨hW.ok, hW.sz⟩, sp, y3.up (by decide)⟩, (pointW W (i, sumR (pre.map stP) + nearS c.1 c.2 x * stP c), x), rfl, ⟨zp.up (by decide), hx.up (by decide)⟩, ⟨okD_fr _, okD_fr _⟩, ?_⟩
  refine cnd_f (b := !PyData.eqv (toD (fr (sqR (pointW W (i, sumR (pre.map stP) + nearS c.1 c.2 x * stP c)) x))) (toD (fr (sqR (shareR c.1 c.2 (nearS c.1 c.2 x)) x)))) ?_ ?_
  · rw [eqv_fr, ea, decide_eq_true rfl]; rfl
  refine ⟨(W, x, sqR (shareR c.1 c.2 (nearS c.1 c.2 x)) x), rfl, ⟨⟨hW.ok, hW.sz, hx⟩, y1.up (by decide), fun j far hjf => ?_⟩, hk2 _ trivial⟩
  obtain ⟨r, hr, hle⟩ := none_nearer hW.ok x hjf
  have h2 := ll r hr
  rw [er] at h2
  have h2 : sqR (shareR c.1 c.2 (nearS c.1 c.2 x)) x ≤ r.headD 0 := h2
  exact Rat.not_lt.mpr (Rat.le_trans h2 hle)

section
variable {P : Program} {w : World} {K : PySem.W.Frag} {mg : Str → Option Value} {base : Heap}
def topS (i : Nat) : Stmt := PySem.Challenge.pw_onewhere_k28_nearest_spots.main.body.getD i (.Pass ⟨0, 0, 0, 0⟩)
abbrev s_is_whole : Stmt := topS 8
abbrev n_is_whole : List Str := ["thing"]
theorem sc_is_whole : FnScope n_is_whole ["thing"] (defScope s_is_whole) := ⟨rfl, rfl, rfl, by decide +kernel, rfl, by decide +kernel, by decide +kernel⟩
theorem ok_is_whole {f : Addr} {dV : Value} {fd : FuncData} (F : FunV K "is_whole" "is_whole" s_is_whole dV f fd) (z_bool : mg "bool" = none) (z_int : mg "int" = none) (z_isinstance : mg "isinstance" = none) : FnG P w K mg base 1 f fd ["thing"] sp_is_whole :=
  okG F sc_is_whole len_is_whole mono_is_whole (fun cdv A outer s S0 H0 E Q Ep xs => by
    intro X hr hgu hE h
    exact ⟨b_is_whole, pzs_one (pz_ret (pv_and (pv_isi .int z_isinstance z_int (pv_var 0)) (pv_one (pv_not (pv_isi .bl z_isinstance z_bool (pv_var 0)))))), ex_is_whole h⟩)
abbrev s_is_within : Stmt := topS 9
abbrev n_is_within : List Str := ["thing", "least", "most"]
theorem sc_is_within : FnScope n_is_within ["thing", "least", "most"] (defScope s_is_within) := ⟨rfl, rfl, rfl, by decide +kernel, rfl, by decide +kernel, by decide +kernel⟩
theorem ok_is_within {f : Addr} {dV : Value} {fd : FuncData} (F : FunV K "is_within" "is_within" s_is_within dV f fd) (c_is_whole : Cal P w K mg base 1 "is_whole" [] sp_is_whole) : FnG P w K mg base 2 f fd ["thing", "least", "most"] sp_is_within :=
  okG F sc_is_within len_is_within mono_is_within (fun cdv A outer s S0 H0 E Q Ep xs => by
    intro X hr hgu hE h
    exact ⟨b_is_within, pzs_one (pz_ret (pv_and (pv_cal c_is_whole (hr.mono (by decide)) hgu (pvs_cons (pv_var 0) (pvs_nil))) (pv_one (pv_chain (opLe (hu64 hr)) sim_cmp (opLe (hu64 hr)) sim_cmp (pv_var 1) (pv_var 0) (pv_var 2))))), ex_is_within h⟩)
abbrev s_is_row : Stmt := topS 10
abbrev n_is_row : List Str := ["thing", "least", "most", "many", "one"]
theorem sc_is_row : FnScope n_is_row ["thing", "least", "most", "many"] (defScope s_is_row) := ⟨rfl, rfl, rfl, by decide +kernel, rfl, by decide +kernel, by decide +kernel⟩
theorem ok_is_row {f : Addr} {dV : Value} {fd : FuncData} (F : FunV K "is_row" "is_row" s_is_row dV f fd) (z_all : mg "all" = none) (z_isinstance : mg "isinstance" = none) (z_len : mg "len" = none) (z_tuple : mg "tuple" = none) : FnG P w K mg base 1 f fd ["thing", "least", "most", "many"] sp_is_row :=
  okG F sc_is_row len_is_row mono_is_row (fun cdv A outer s S0 H0 E Q Ep xs => by
    intro X hr hgu hE h
    exact ⟨b_is_row, pzs_cons (pz_if (PBw.pb (pbw_or (pb_not (pb_val (pv_isi .tup z_isinstance z_tuple (pv_var 0)))) (pbw_or1 (pb_not (pb_chain (opLe (hu64 hr)) sim_cmp (opLe (hu64 hr)) sim_cmp (pv_var 1) (pv_len z_len (pvs_cons (pv_var 0) (pvs_nil))) (pv_var 2)))))) (pzs_one (pz_ret (pv_bl))) (pzs_nil)) (pzs_one (pz_ret (pv_all rfl z_all (pvs_cons (pv_lc [("one", 4)] rfl sc_is_row.nd (pit_val (pv_var 0)) (blkOk_by (N := n_is_row) (sc := defScope s_is_row) (by decide +kernel)) (fun _ _ _ _ _ => pgt_name 4 sc_is_row.nd) (fun _ _ _ _ _ => pbs_nil) (fun _ _ _ _ _ => pv_and (pv_isi .tup z_isinstance z_tuple (pv_var 4)) (pv_one (pv_cmp (opEq (hu64 hr)) sim_eq (pv_len z_len (pvs_cons (pv_var 4) (pvs_nil))) (pv_var 3) (nomark _))))) (pvs_nil))))), ex_is_row h⟩)
abbrev s_common_of : Stmt := topS 11
abbrev n_common_of : List Str := ["one", "other"]
theorem sc_common_of : FnScope n_common_of ["one", "other"] (defScope s_common_of) := ⟨rfl, rfl, rfl, by decide +kernel, rfl, by decide +kernel, by decide +kernel⟩
theorem ok_common_of {f : Addr} {dV : Value} {fd : FuncData} (F : FunV K "common_of" "common_of" s_common_of dV f fd) (z_abs : mg "abs" = none) : FnG P w K mg base 1 f fd ["one", "other"] sp_common_of :=
  okG F sc_common_of len_common_of mono_common_of (fun cdv A outer s S0 H0 E Q Ep xs => by
    intro X hr hgu hE h
    have hps : PassesOwn (model X.prog X.w) X.A X.env X.xe := passes_of rfl
    exact ⟨b_common_of, pzs_cons (pz_par 0 1 rfl sc_common_of.nd (pvs_cons (pv_abs z_abs (pvs_cons (pv_var 0) (pvs_nil))) (pvs_cons (pv_abs z_abs (pvs_cons (pv_var 1) (pvs_nil))) (pvs_nil)))) (pzs_cons (pz_while hps (pb_cmp (opNe (hu64 hr)) sim_ne (pv_var 1) (pv_int) (nomark _)) (pzs_one (pz_par 0 1 rfl sc_common_of.nd (pvs_cons (pv_var 1) (pvs_cons (pv_mod (pv_var 0) (pv_var 1)) (pvs_nil)))))) (pzs_one (pz_ret (pv_var 0)))), ex_common_of h⟩)
abbrev s_low : Stmt := topS 12
abbrev n_low : List Str := ["top", "bottom", "share"]
theorem sc_low : FnScope n_low ["top", "bottom"] (defScope s_low) := ⟨rfl, rfl, rfl, by decide +kernel, rfl, by decide +kernel, by decide +kernel⟩
theorem ok_low {f : Addr} {dV : Value} {fd : FuncData} (F : FunV K "low" "low" s_low dV f fd) (c_common_of : Cal P w K mg base 1 "common_of" [] sp_common_of) : FnG P w K mg base 2 f fd ["top", "bottom"] sp_low :=
  okG F sc_low len_low mono_low (fun cdv A outer s S0 H0 E Q Ep xs => by
    intro X hr hgu hE h
    exact ⟨b_low, pzs_cons (pz_set 2 sc_low.nd (pv_cal c_common_of (hr.mono (by decide)) hgu (pvs_cons (pv_var 0) (pvs_cons (pv_var 1) (pvs_nil))))) (pzs_cons (pz_if (pb_cmp (opLt (hu64 hr)) sim_cmp (pv_var 1) (pv_int) (nomark _)) (pzs_one (pz_set 2 sc_low.nd (pv_sub (pv_int) (pv_var 2)))) (pzs_nil)) (pzs_one (pz_ret (pv_tup (pvs_cons (pv_div (pv_var 0) (pv_var 2)) (pvs_cons (pv_div (pv_var 1) (pv_var 2)) (pvs_nil))))))), ex_low h⟩)
abbrev s_is_fraction : Stmt := topS 13
abbrev n_is_fraction : List Str := ["thing"]
theorem sc_is_fraction : FnScope n_is_fraction ["thing"] (defScope s_is_fraction) := ⟨rfl, rfl, rfl, by decide +kernel, rfl, by decide +kernel, by decide +kernel⟩
theorem ok_is_fraction {f : Addr} {dV : Value} {fd : FuncData} (F : FunV K "is_fraction" "is_fraction" s_is_fraction dV f fd) (z_isinstance : mg "isinstance" = none) (z_len : mg "len" = none) (z_tuple : mg "tuple" = none) (c_common_of : Cal P w K mg base 1 "common_of" [] sp_common_of) (c_is_whole : Cal P w K mg base 1 "is_whole" [] sp_is_whole) : FnG P w K mg base 2 f fd ["thing"] sp_is_fraction :=
  okG F sc_is_fraction len_is_fraction mono_is_fraction (fun cdv A outer s S0 H0 E Q Ep xs => by
    intro X hr hgu hE h
    exact ⟨b_is_fraction, pzs_cons (pz_if (PBw.pb (pbw_or (pb_not (pb_val (pv_isi .tup z_isinstance z_tuple (pv_var 0)))) (pbw_or (pb_cmp (opNe (hu64 hr)) sim_ne (pv_len z_len (pvs_cons (pv_var 0) (pvs_nil))) (pv_int) (nomark _)) (pbw_or (pb_not (pb_val (pv_cal c_is_whole (hr.mono (by decide)) hgu (pvs_cons (pv_ix (pv_var 0) (pv_int)) (pvs_nil))))) (pbw_or1 (pb_not (pb_val (pv_cal c_is_whole (hr.mono (by decide)) hgu (pvs_cons (pv_ix (pv_var 0) (pv_int)) (pvs_nil)))))))))) (pzs_one (pz_ret (pv_bl))) (pzs_nil)) (pzs_one (pz_ret (pv_and (pv_cmp (opGt (hu64 hr)) sim_cmp (pv_ix (pv_var 0) (pv_int)) (pv_int) (nomark _)) (pv_one (pv_cmp (opEq (hu64 hr)) sim_eq (pv_cal c_common_of (hr.mono (by decide)) hgu (pvs_cons (pv_ix (pv_var 0) (pv_int)) (pvs_cons (pv_ix (pv_var 0) (pv_int)) (pvs_nil)))) (pv_int) (nomark _)))))), ex_is_fraction h⟩)
abbrev s_whole : Stmt := topS 14
abbrev n_whole : List Str := ["number"]
theorem sc_whole : FnScope n_whole ["number"] (defScope s_whole) := ⟨rfl, rfl, rfl, by decide +kernel, rfl, by decide +kernel, by decide +kernel⟩
theorem ok_whole {f : Addr} {dV : Value} {fd : FuncData} (F : FunV K "whole" "whole" s_whole dV f fd) : FnG P w K mg base 1 f fd ["number"] sp_whole :=
  okG F sc_whole len_whole mono_whole (fun cdv A outer s S0 H0 E Q Ep xs => by
    intro X hr hgu hE h
    exact ⟨b_whole, pzs_one (pz_ret (pv_tup (pvs_cons (pv_var 0) (pvs_cons (pv_int) (pvs_nil))))), ex_whole h⟩)
abbrev s_plus : Stmt := topS 15
abbrev n_plus : List Str := ["one", "other"]
theorem sc_plus : FnScope n_plus ["one", "other"] (defScope s_plus) := ⟨rfl, rfl, rfl, by decide +kernel, rfl, by decide +kernel, by decide +kernel⟩
theorem ok_plus {f : Addr} {dV : Value} {fd : FuncData} (F : FunV K "plus" "plus" s_plus dV f fd) (c_low : Cal P w K mg base 2 "low" [] sp_low) : FnG P w K mg base 3 f fd ["one", "other"] sp_plus :=
  okG F sc_plus len_plus mono_plus (fun cdv A outer s S0 H0 E Q Ep xs => by
    intro X hr hgu hE h
    exact ⟨b_plus, pzs_one (pz_ret (pv_cal c_low (hr.mono (by decide)) hgu (pvs_cons (pv_add (pv_mul (pv_ix (pv_var 0) (pv_int)) (pv_ix (pv_var 1) (pv_int))) (pv_mul (pv_ix (pv_var 1) (pv_int)) (pv_ix (pv_var 0) (pv_int)))) (pvs_cons (pv_mul (pv_ix (pv_var 0) (pv_int)) (pv_ix (pv_var 1) (pv_int))) (pvs_nil))))), ex_plus h⟩)
abbrev s_minus : Stmt := topS 16
abbrev n_minus : List Str := ["one", "other"]
theorem sc_minus : FnScope n_minus ["one", "other"] (defScope s_minus) := ⟨rfl, rfl, rfl, by decide +kernel, rfl, by decide +kernel, by decide +kernel⟩
theorem ok_minus {f : Addr} {dV : Value} {fd : FuncData} (F : FunV K "minus" "minus" s_minus dV f fd) (c_low : Cal P w K mg base 2 "low" [] sp_low) : FnG P w K mg base 3 f fd ["one", "other"] sp_minus :=
  okG F sc_minus len_minus mono_minus (fun cdv A outer s S0 H0 E Q Ep xs => by
    intro X hr hgu hE h
    exact ⟨b_minus, pzs_one (pz_ret (pv_cal c_low (hr.mono (by decide)) hgu (pvs_cons (pv_sub (pv_mul (pv_ix (pv_var 0) (pv_int)) (pv_ix (pv_var 1) (pv_int))) (pv_mul (pv_ix (pv_var 1) (pv_int)) (pv_ix (pv_var 0) (pv_int)))) (pvs_cons (pv_mul (pv_ix (pv_var 0) (pv_int)) (pv_ix (pv_var 1) (pv_int))) (pvs_nil))))), ex_minus h⟩)
abbrev s_times : Stmt := topS 17
abbrev n_times : List Str := ["one", "other"]
theorem sc_times : FnScope n_times ["one", "other"] (defScope s_times) := ⟨rfl, rfl, rfl, by decide +kernel, rfl, by decide +kernel, by decide +kernel⟩
theorem ok_times {f : Addr} {dV : Value} {fd : FuncData} (F : FunV K "times" "times" s_times dV f fd) (c_low : Cal P w K mg base 2 "low" [] sp_low) : FnG P w K mg base 3 f fd ["one", "other"] sp_times :=
  okG F sc_times len_times mono_times (fun cdv A outer s S0 H0 E Q Ep xs => by
    intro X hr hgu hE h
    exact ⟨b_times, pzs_one (pz_ret (pv_cal c_low (hr.mono (by decide)) hgu (pvs_cons (pv_mul (pv_ix (pv_var 0) (pv_int)) (pv_ix (pv_var 1) (pv_int))) (pvs_cons (pv_mul (pv_ix (pv_var 0) (pv_int)) (pv_ix (pv_var 1) (pv_int))) (pvs_nil))))), ex_times h⟩)
abbrev s_over : Stmt := topS 18
abbrev n_over : List Str := ["one", "other"]
theorem sc_over : FnScope n_over ["one", "other"] (defScope s_over) := ⟨rfl, rfl, rfl, by decide +kernel, rfl, by decide +kernel, by decide +kernel⟩
theorem ok_over {f : Addr} {dV : Value} {fd : FuncData} (F : FunV K "over" "over" s_over dV f fd) (c_low : Cal P w K mg base 2 "low" [] sp_low) : FnG P w K mg base 3 f fd ["one", "other"] sp_over :=
  okG F sc_over len_over mono_over (fun cdv A outer s S0 H0 E Q Ep xs => by
    intro X hr hgu hE h
    exact ⟨b_over, pzs_one (pz_ret (pv_cal c_low (hr.mono (by decide)) hgu (pvs_cons (pv_mul (pv_ix (pv_var 0) (pv_int)) (pv_ix (pv_var 1) (pv_int))) (pvs_cons (pv_mul (pv_ix (pv_var 0) (pv_int)) (pv_ix (pv_var 1) (pv_int))) (pvs_nil))))), ex_over h⟩)
abbrev s_less : Stmt := topS 19
abbrev n_less : List Str := ["one", "other"]
theorem sc_less : FnScope n_less ["one", "other"] (defScope s_less) := ⟨rfl, rfl, rfl, by decide +kernel, rfl, by decide +kernel, by decide +kernel⟩
theorem ok_less {f : Addr} {dV : Value} {fd : FuncData} (F : FunV K "less" "less" s_less dV f fd) : FnG P w K mg base 1 f fd ["one", "other"] sp_less :=
  okG F sc_less len_less mono_less (fun cdv A outer s S0 H0 E Q Ep xs => by
    intro X hr hgu hE h
    exact ⟨b_less, pzs_one (pz_ret (pv_cmp (opLt (hu64 hr)) sim_cmp (pv_mul (pv_ix (pv_var 0) (pv_int)) (pv_ix (pv_var 1) (pv_int))) (pv_mul (pv_ix (pv_var 1) (pv_int)) (pv_ix (pv_var 0) (pv_int))) (nomark _))), ex_less h⟩)
abbrev s_amount : Stmt := topS 20
abbrev n_amount : List Str := ["one"]
theorem sc_amount : FnScope n_amount ["one"] (defScope s_amount) := ⟨rfl, rfl, rfl, by decide +kernel, rfl, by decide +kernel, by decide +kernel⟩
theorem ok_amount {f : Addr} {dV : Value} {fd : FuncData} (F : FunV K "amount" "amount" s_amount dV f fd) (z_abs : mg "abs" = none) : FnG P w K mg base 1 f fd ["one"] sp_amount :=
  okG F sc_amount len_amount mono_amount (fun cdv A outer s S0 H0 E Q Ep xs => by
    intro X hr hgu hE h
    exact ⟨b_amount, pzs_one (pz_ret (pv_tup (pvs_cons (pv_abs z_abs (pvs_cons (pv_ix (pv_var 0) (pv_int)) (pvs_nil))) (pvs_cons (pv_ix (pv_var 0) (pv_int)) (pvs_nil))))), ex_amount h⟩)
abbrev s_is_point : Stmt := topS 21
abbrev n_is_point : List Str := ["thing"]
theorem sc_is_point : FnScope n_is_point ["thing"] (defScope s_is_point) := ⟨rfl, rfl, rfl, by decide +kernel, rfl, by decide +kernel, by decide +kernel⟩
theorem ok_is_point {f : Addr} {dV : Value} {fd : FuncData} (F : FunV K "is_point" "is_point" s_is_point dV f fd) (z_isinstance : mg "isinstance" = none) (z_len : mg "len" = none) (z_tuple : mg "tuple" = none) (c_is_fraction : Cal P w K mg base 2 "is_fraction" [] sp_is_fraction) : FnG P w K mg base 3 f fd ["thing"] sp_is_point :=
  okG F sc_is_point len_is_point mono_is_point (fun cdv A outer s S0 H0 E Q Ep xs => by
    intro X hr hgu hE h
    exact ⟨b_is_point, pzs_one (pz_ret (pv_and (pv_isi .tup z_isinstance z_tuple (pv_var 0)) (pv_and (pv_cmp (opEq (hu64 hr)) sim_eq (pv_len z_len (pvs_cons (pv_var 0) (pvs_nil))) (pv_int) (nomark _)) (pv_and (pv_cal c_is_fraction (hr.mono (by decide)) hgu (pvs_cons (pv_ix (pv_var 0) (pv_int)) (pvs_nil))) (pv_one (pv_cal c_is_fraction (hr.mono (by decide)) hgu (pvs_cons (pv_ix (pv_var 0) (pv_int)) (pvs_nil)))))))), ex_is_point h⟩)
abbrev s_need_point : Stmt := topS 22
abbrev n_need_point : List Str := ["thing"]
theorem sc_need_point : FnScope n_need_point ["thing"] (defScope s_need_point) := ⟨rfl, rfl, rfl, by decide +kernel, rfl, by decide +kernel, by decide +kernel⟩
theorem ok_need_point {f : Addr} {dV : Value} {fd : FuncData} (F : FunV K "need_point" "need_point" s_need_point dV f fd) (c_is_point : Cal P w K mg base 3 "is_point" [] sp_is_point) : FnG P w K mg base 4 f fd ["thing"] sp_need_point :=
  okG F sc_need_point len_need_point mono_need_point (fun cdv A outer s S0 H0 E Q Ep xs => by
    intro X hr hgu hE h
    exact ⟨b_need_point, pzs_one (pz_if (pb_not (pb_val (pv_cal c_is_point (hr.mono (by decide)) hgu (pvs_cons (pv_var 0) (pvs_nil))))) (pzs_one (pz_never)) (pzs_nil)), ex_need_point h⟩)
abbrev s_is_in_land : Stmt := topS 23
abbrev n_is_in_land : List Str := ["point", "one"]
theorem sc_is_in_land : FnScope n_is_in_land ["point"] (defScope s_is_in_land) := ⟨rfl, rfl, rfl, by decide +kernel, rfl, by decide +kernel, by decide +kernel⟩
theorem ok_is_in_land {f : Addr} {dV : Value} {fd : FuncData} (F : FunV K "is_in_land" "is_in_land" s_is_in_land dV f fd) (z_all : mg "all" = none) (g_LAND : ∃ u, mg "LAND" = some u ∧ KRep K v_LAND u) : FnG P w K mg base 1 f fd ["point"] sp_is_in_land :=
  okG F sc_is_in_land len_is_in_land mono_is_in_land (fun cdv A outer s S0 H0 E Q Ep xs => by
    intro X hr hgu hE h
    obtain ⟨u_LAND, g_LAND⟩ := g_LAND
    exact ⟨b_is_in_land, pzs_one (pz_ret (pv_all rfl z_all (pvs_cons (pv_lc [("one", 1)] rfl sc_is_in_land.nd (pit_val (pv_var 0)) (blkOk_by (N := n_is_in_land) (sc := defScope s_is_in_land) (by decide +kernel)) (fun _ _ _ _ _ => pgt_name 1 sc_is_in_land.nd) (fun _ _ _ _ _ => pbs_nil) (fun _ _ _ _ _ => pv_chain (opLe (hu64 hr)) sim_cmp (opLt (hu64 hr)) sim_cmp (pv_int) (pv_ix (pv_var 1) (pv_int)) (pv_mul (pv_glob (by rfl) g_LAND.1 g_LAND.2) (pv_ix (pv_var 1) (pv_int))))) (pvs_nil)))), ex_is_in_land h⟩)
abbrev s_before : Stmt := topS 24
abbrev n_before : List Str := ["one", "other", "here", "there"]
theorem sc_before : FnScope n_before ["one", "other"] (defScope s_before) := ⟨rfl, rfl, rfl, by decide +kernel, rfl, by decide +kernel, by decide +kernel⟩
theorem ok_before {f : Addr} {dV : Value} {fd : FuncData} (F : FunV K "before" "before" s_before dV f fd) (z_zip : mg "zip" = none) (c_less : Cal P w K mg base 1 "less" [] sp_less) : FnG P w K mg base 2 f fd ["one", "other"] sp_before :=
  okG F sc_before len_before mono_before (fun cdv A outer s S0 H0 E Q Ep xs => by
    intro X hr hgu hE h
    have hps : PassesOwn (model X.prog X.w) X.A X.env X.xe := passes_of rfl
    exact ⟨b_before, pzs_cons (pz_beg [2, 3] (pz_for hps rfl (pit_zip z_zip (pvs_cons (pv_var 0) (pvs_cons (pv_var 1) (pvs_nil)))) (pgt_tup rfl (pgt_cons (pgt_name 2 sc_before.nd) (pgt_cons (pgt_name 3 sc_before.nd) (pgt_nil)))) (pzs_end [2, 3] (pzs_one (pz_if (pb_cmp (opNe (hu64 hr)) sim_ne (pv_var 2) (pv_var 3) (nomark _)) (pzs_one (pz_ret (pv_cal c_less (hr.mono (by decide)) hgu (pvs_cons (pv_var 2) (pvs_cons (pv_var 3) (pvs_nil)))))) (pzs_nil)))))) (pzs_one (pz_ret (pv_bl))), ex_before h⟩)
abbrev s_least_of : Stmt := topS 25
abbrev n_least_of : List Str := ["rows", "found", "row"]
theorem sc_least_of : FnScope n_least_of ["rows"] (defScope s_least_of) := ⟨rfl, rfl, rfl, by decide +kernel, rfl, by decide +kernel, by decide +kernel⟩
theorem ok_least_of {f : Addr} {dV : Value} {fd : FuncData} (F : FunV K "least_of" "least_of" s_least_of dV f fd) (c_before : Cal P w K mg base 2 "before" [] sp_before) : FnG P w K mg base 3 f fd ["rows"] sp_least_of :=
  okG F sc_least_of len_least_of mono_least_of (fun cdv A outer s S0 H0 E Q Ep xs => by
    intro X hr hgu hE h
    have hps : PassesOwn (model X.prog X.w) X.A X.env X.xe := passes_of rfl
    exact ⟨b_least_of, pzs_cons (pz_set 1 sc_least_of.nd (pv_ix (pv_var 0) (pv_int))) (pzs_cons (pz_beg [2] (pz_for hps rfl (pit_val (pv_slice (pv_var 0) (pvo_some (pv_int)) (pvo_none))) (pgt_name 2 sc_least_of.nd) (pzs_end [2] (pzs_one (pz_if (pb_val (pv_cal c_before (hr.mono (by decide)) hgu (pvs_cons (pv_var 2) (pvs_cons (pv_var 1) (pvs_nil))))) (pzs_one (pz_set 1 sc_least_of.nd (pv_var 2))) (pzs_nil)))))) (pzs_one (pz_ret (pv_var 1)))), ex_least_of h⟩)
abbrev s_steps : Stmt := topS 26
abbrev n_steps : List Str := ["one", "other"]
theorem sc_steps : FnScope n_steps ["one", "other"] (defScope s_steps) := ⟨rfl, rfl, rfl, by decide +kernel, rfl, by decide +kernel, by decide +kernel⟩
theorem ok_steps {f : Addr} {dV : Value} {fd : FuncData} (F : FunV K "steps" "steps" s_steps dV f fd) (c_amount : Cal P w K mg base 1 "amount" [] sp_amount) (c_minus : Cal P w K mg base 3 "minus" [] sp_minus) : FnG P w K mg base 4 f fd ["one", "other"] sp_steps :=
  okG F sc_steps len_steps mono_steps (fun cdv A outer s S0 H0 E Q Ep xs => by
    intro X hr hgu hE h
    exact ⟨b_steps, pzs_one (pz_ret (pv_tup (pvs_cons (pv_cal c_amount (hr.mono (by decide)) hgu (pvs_cons (pv_cal c_minus (hr.mono (by decide)) hgu (pvs_cons (pv_ix (pv_var 0) (pv_int)) (pvs_cons (pv_ix (pv_var 1) (pv_int)) (pvs_nil)))) (pvs_nil))) (pvs_cons (pv_cal c_amount (hr.mono (by decide)) hgu (pvs_cons (pv_cal c_minus (hr.mono (by decide)) hgu (pvs_cons (pv_ix (pv_var 0) (pv_int)) (pvs_cons (pv_ix (pv_var 1) (pv_int)) (pvs_nil)))) (pvs_nil))) (pvs_nil))))), ex_steps h⟩)
abbrev s_squared_of : Stmt := topS 27
abbrev n_squared_of : List Str := ["one", "other", "here", "there"]
theorem sc_squared_of : FnScope n_squared_of ["one", "other"] (defScope s_squared_of) := ⟨rfl, rfl, rfl, by decide +kernel, rfl, by decide +kernel, by decide +kernel⟩
theorem ok_squared_of {f : Addr} {dV : Value} {fd : FuncData} (F : FunV K "squared_of" "squared_of" s_squared_of dV f fd) (c_plus : Cal P w K mg base 3 "plus" [] sp_plus) (c_steps : Cal P w K mg base 4 "steps" [] sp_steps) (c_times : Cal P w K mg base 3 "times" [] sp_times) : FnG P w K mg base 5 f fd ["one", "other"] sp_squared_of :=
  okG F sc_squared_of len_squared_of mono_squared_of (fun cdv A outer s S0 H0 E Q Ep xs => by
    intro X hr hgu hE h
    exact ⟨b_squared_of, pzs_cons (pz_tgt (t := .tp [.nm 2, .nm 3]) (pv_cal c_steps (hr.mono (by decide)) hgu (pvs_cons (pv_var 0) (pvs_cons (pv_var 1) (pvs_nil)))) (pgt_tup rfl (pgt_cons (pgt_name 2 sc_squared_of.nd) (pgt_cons (pgt_name 3 sc_squared_of.nd) (pgt_nil))))) (pzs_one (pz_ret (pv_cal c_plus (hr.mono (by decide)) hgu (pvs_cons (pv_cal c_times (hr.mono (by decide)) hgu (pvs_cons (pv_var 2) (pvs_cons (pv_var 2) (pvs_nil)))) (pvs_cons (pv_cal c_times (hr.mono (by decide)) hgu (pvs_cons (pv_var 3) (pvs_cons (pv_var 3) (pvs_nil)))) (pvs_nil)))))), ex_squared_of h⟩)
abbrev s_streetwise_of : Stmt := topS 28
abbrev n_streetwise_of : List Str := ["one", "other", "here", "there"]
theorem sc_streetwise_of : FnScope n_streetwise_of ["one", "other"] (defScope s_streetwise_of) := ⟨rfl, rfl, rfl, by decide +kernel, rfl, by decide +kernel, by decide +kernel⟩
theorem ok_streetwise_of {f : Addr} {dV : Value} {fd : FuncData} (F : FunV K "streetwise_of" "streetwise_of" s_streetwise_of dV f fd) (c_plus : Cal P w K mg base 3 "plus" [] sp_plus) (c_steps : Cal P w K mg base 4 "steps" [] sp_steps) : FnG P w K mg base 5 f fd ["one", "other"] sp_streetwise_of :=
  okG F sc_streetwise_of len_streetwise_of mono_streetwise_of (fun cdv A outer s S0 H0 E Q Ep xs => by
    intro X hr hgu hE h
    exact ⟨b_streetwise_of, pzs_cons (pz_tgt (t := .tp [.nm 2, .nm 3]) (pv_cal c_steps (hr.mono (by decide)) hgu (pvs_cons (pv_var 0) (pvs_cons (pv_var 1) (pvs_nil)))) (pgt_tup rfl (pgt_cons (pgt_name 2 sc_streetwise_of.nd) (pgt_cons (pgt_name 3 sc_streetwise_of.nd) (pgt_nil))))) (pzs_one (pz_ret (pv_cal c_plus (hr.mono (by decide)) hgu (pvs_cons (pv_var 2) (pvs_cons (pv_var 3) (pvs_nil)))))), ex_streetwise_of h⟩)
abbrev s_at_share : Stmt := topS 29
abbrev n_at_share : List Str := ["one", "other", "share", "here", "there"]
theorem sc_at_share : FnScope n_at_share ["one", "other", "share"] (defScope s_at_share) := ⟨rfl, rfl, rfl, by decide +kernel, rfl, by decide +kernel, by decide +kernel⟩
theorem ok_at_share {f : Addr} {dV : Value} {fd : FuncData} (F : FunV K "at_share" "at_share" s_at_share dV f fd) (z_tuple : mg "tuple" = none) (z_zip : mg "zip" = none) (c_minus : Cal P w K mg base 3 "minus" [] sp_minus) (c_plus : Cal P w K mg base 3 "plus" [] sp_plus) (c_times : Cal P w K mg base 3 "times" [] sp_times) : FnG P w K mg base 4 f fd ["one", "other", "share"] sp_at_share :=
  okG F sc_at_share len_at_share mono_at_share (fun cdv A outer s S0 H0 E Q Ep xs => by
    intro X hr hgu hE h
    exact ⟨b_at_share, pzs_one (pz_ret (pv_tupleOf z_tuple (pvs_cons (pv_lc [("here", 3), ("there", 4)] rfl sc_at_share.nd (pit_zip z_zip (pvs_cons (pv_var 0) (pvs_cons (pv_var 1) (pvs_nil)))) (blkOk_by (N := n_at_share) (sc := defScope s_at_share) (by decide +kernel)) (fun _ _ _ _ _ => pgt_tup rfl (pgt_cons (pgt_name 3 sc_at_share.nd) (pgt_cons (pgt_name 4 sc_at_share.nd) (pgt_nil)))) (fun _ _ _ _ _ => pbs_nil) (fun _ _ _ _ _ => pv_cal c_plus (hr.mono (by decide)) hgu (pvs_cons (pv_var 3) (pvs_cons (pv_cal c_times (hr.mono (by decide)) hgu (pvs_cons (pv_var 2) (pvs_cons (pv_cal c_minus (hr.mono (by decide)) hgu (pvs_cons (pv_var 4) (pvs_cons (pv_var 3) (pvs_nil)))) (pvs_nil)))) (pvs_nil))))) (pvs_nil)))), ex_at_share h⟩)
abbrev s_are_land_points : Stmt := topS 34
abbrev n_are_land_points : List Str := ["thing", "least", "most", "one"]
theorem sc_are_land_points : FnScope n_are_land_points ["thing", "least", "most"] (defScope s_are_land_points) := ⟨rfl, rfl, rfl, by decide +kernel, rfl, by decide +kernel, by decide +kernel⟩
theorem ok_are_land_points {f : Addr} {dV : Value} {fd : FuncData} (F : FunV K "are_land_points" "are_land_points" s_are_land_points dV f fd) (z_all : mg "all" = none) (z_isinstance : mg "isinstance" = none) (z_len : mg "len" = none) (z_tuple : mg "tuple" = none) (c_is_in_land : Cal P w K mg base 1 "is_in_land" [] sp_is_in_land) (c_is_point : Cal P w K mg base 3 "is_point" [] sp_is_point) : FnG P w K mg base 4 f fd ["thing", "least", "most"] sp_are_land_points :=
  okG F sc_are_land_points len_are_land_points mono_are_land_points (fun cdv A outer s S0 H0 E Q Ep xs => by
    intro X hr hgu hE h
    exact ⟨b_are_land_points, pzs_cons (pz_if (PBw.pb (pbw_or (pb_not (pb_val (pv_isi .tup z_isinstance z_tuple (pv_var 0)))) (pbw_or1 (pb_not (pb_chain (opLe (hu64 hr)) sim_cmp (opLe (hu64 hr)) sim_cmp (pv_var 1) (pv_len z_len (pvs_cons (pv_var 0) (pvs_nil))) (pv_var 2)))))) (pzs_one (pz_ret (pv_bl))) (pzs_nil)) (pzs_one (pz_ret (pv_all rfl z_all (pvs_cons (pv_lc [("one", 3)] rfl sc_are_land_points.nd (pit_val (pv_var 0)) (blkOk_by (N := n_are_land_points) (sc := defScope s_are_land_points) (by decide +kernel)) (fun _ _ _ _ _ => pgt_name 3 sc_are_land_points.nd) (fun _ _ _ _ _ => pbs_nil) (fun _ _ _ _ _ => pv_and (pv_cal c_is_point (hr.mono (by decide)) hgu (pvs_cons (pv_var 3) (pvs_nil))) (pv_one (pv_cal c_is_in_land (hr.mono (by decide)) hgu (pvs_cons (pv_var 3) (pvs_nil)))))) (pvs_nil))))), ex_are_land_points h⟩)
abbrev s_is_road : Stmt := topS 35
abbrev n_is_road : List Str := ["crossings", "thing", "one", "other", "middle", "ways", "last", "line", "here", "there"]
theorem sc_is_road : FnScope n_is_road ["crossings", "thing"] (defScope s_is_road) := ⟨rfl, rfl, rfl, by decide +kernel, rfl, by decide +kernel, by decide +kernel⟩
theorem ok_is_road {f : Addr} {dV : Value} {fd : FuncData} (F : FunV K "is_road" "is_road" s_is_road dV f fd) (z_all : mg "all" = none) (z_len : mg "len" = none) (z_zip : mg "zip" = none) (g_MOST_MIDDLE : ∃ u, mg "MOST_MIDDLE" = some u ∧ KRep K v_MOST_MIDDLE u) (c_are_land_points : Cal P w K mg base 4 "are_land_points" [] sp_are_land_points) (c_is_within : Cal P w K mg base 2 "is_within" [] sp_is_within) : FnG P w K mg base 5 f fd ["crossings", "thing"] sp_is_road :=
  okG F sc_is_road len_is_road mono_is_road (fun cdv A outer s S0 H0 E Q Ep xs => by
    intro X hr hgu hE h
    obtain ⟨u_MOST_MIDDLE, g_MOST_MIDDLE⟩ := g_MOST_MIDDLE
    exact ⟨b_is_road, pzs_cons (pz_tgt (t := .tp [.nm 2, .nm 3, .nm 4, .nm 5]) (pv_var 1) (pgt_tup rfl (pgt_cons (pgt_name 2 sc_is_road.nd) (pgt_cons (pgt_name 3 sc_is_road.nd) (pgt_cons (pgt_name 4 sc_is_road.nd) (pgt_cons (pgt_name 5 sc_is_road.nd) (pgt_nil))))))) (pzs_cons (pz_set 6 sc_is_road.nd (pv_sub (pv_len z_len (pvs_cons (pv_var 0) (pvs_nil))) (pv_int))) (pzs_cons (pz_if (PBw.pb (pbw_or (pb_not (pb_val (pv_cal c_is_within (hr.mono (by decide)) hgu (pvs_cons (pv_var 2) (pvs_cons (pv_int) (pvs_cons (pv_var 6) (pvs_nil))))))) (pbw_or (pb_not (pb_val (pv_cal c_is_within (hr.mono (by decide)) hgu (pvs_cons (pv_var 3) (pvs_cons (pv_int) (pvs_cons (pv_var 6) (pvs_nil))))))) (pbw_or (pb_cmp (opEq (hu64 hr)) sim_eq (pv_var 2) (pv_var 3) (nomark _)) (pbw_or1 (pb_not (pb_val (pv_cal c_is_within (hr.mono (by decide)) hgu (pvs_cons (pv_var 5) (pvs_cons (pv_int) (pvs_cons (pv_int) (pvs_nil)))))))))))) (pzs_one (pz_ret (pv_bl))) (pzs_nil)) (pzs_cons (pz_if (pb_not (pb_val (pv_cal c_are_land_points (hr.mono (by decide)) hgu (pvs_cons (pv_var 4) (pvs_cons (pv_int) (pvs_cons (pv_glob (by rfl) g_MOST_MIDDLE.1 g_MOST_MIDDLE.2) (pvs_nil))))))) (pzs_one (pz_ret (pv_bl))) (pzs_nil)) (pzs_cons (pz_set 7 sc_is_road.nd (pv_add (pv_add (pv_tup (pvs_cons (pv_ix (pv_var 0) (pv_var 2)) (pvs_nil))) (pv_var 4)) (pv_tup (pvs_cons (pv_ix (pv_var 0) (pv_var 3)) (pvs_nil))))) (pzs_one (pz_ret (pv_all rfl z_all (pvs_cons (pv_lc [("here", 8), ("there", 9)] rfl sc_is_road.nd (pit_zip z_zip (pvs_cons (pv_var 7) (pvs_cons (pv_slice (pv_var 7) (pvo_some (pv_int)) (pvo_none)) (pvs_nil)))) (blkOk_by (N := n_is_road) (sc := defScope s_is_road) (by decide +kernel)) (fun _ _ _ _ _ => pgt_tup rfl (pgt_cons (pgt_name 8 sc_is_road.nd) (pgt_cons (pgt_name 9 sc_is_road.nd) (pgt_nil)))) (fun _ _ _ _ _ => pbs_nil) (fun _ _ _ _ _ => pv_cmp (opNe (hu64 hr)) sim_ne (pv_var 8) (pv_var 9) (nomark _))) (pvs_nil))))))))), ex_is_road h⟩)
abbrev s_is_web : Stmt := topS 36
abbrev n_is_web : List Str := ["thing", "crossings", "roads", "road", "point"]
theorem sc_is_web : FnScope n_is_web ["thing"] (defScope s_is_web) := ⟨rfl, rfl, rfl, by decide +kernel, rfl, by decide +kernel, by decide +kernel⟩
theorem ok_is_web {f : Addr} {dV : Value} {fd : FuncData} (F : FunV K "is_web" "is_web" s_is_web dV f fd) (z_all : mg "all" = none) (z_isinstance : mg "isinstance" = none) (z_len : mg "len" = none) (z_tuple : mg "tuple" = none) (g_MOST_CROSSINGS : ∃ u, mg "MOST_CROSSINGS" = some u ∧ KRep K v_MOST_CROSSINGS u) (g_MOST_ROADS : ∃ u, mg "MOST_ROADS" = some u ∧ KRep K v_MOST_ROADS u) (c_are_land_points : Cal P w K mg base 4 "are_land_points" [] sp_are_land_points) (c_is_road : Cal P w K mg base 5 "is_road" [] sp_is_road) (c_is_row : Cal P w K mg base 1 "is_row" [] sp_is_row) : FnG P w K mg base 6 f fd ["thing"] sp_is_web :=
  okG F sc_is_web len_is_web mono_is_web (fun cdv A outer s S0 H0 E Q Ep xs => by
    intro X hr hgu hE h
    obtain ⟨u_MOST_CROSSINGS, g_MOST_CROSSINGS⟩ := g_MOST_CROSSINGS
    obtain ⟨u_MOST_ROADS, g_MOST_ROADS⟩ := g_MOST_ROADS
    exact ⟨b_is_web, pzs_cons (pz_if (PBw.pb (pbw_or (pb_not (pb_val (pv_isi .tup z_isinstance z_tuple (pv_var 0)))) (pbw_or1 (pb_cmp (opNe (hu64 hr)) sim_ne (pv_len z_len (pvs_cons (pv_var 0) (pvs_nil))) (pv_int) (nomark _))))) (pzs_one (pz_ret (pv_bl))) (pzs_nil)) (pzs_cons (pz_tgt (t := .tp [.nm 1, .nm 2]) (pv_var 0) (pgt_tup rfl (pgt_cons (pgt_name 1 sc_is_web.nd) (pgt_cons (pgt_name 2 sc_is_web.nd) (pgt_nil))))) (pzs_cons (pz_if (PBw.pb (pbw_or (pb_not (pb_val (pv_cal c_are_land_points (hr.mono (by decide)) hgu (pvs_cons (pv_var 1) (pvs_cons (pv_int) (pvs_cons (pv_glob (by rfl) g_MOST_CROSSINGS.1 g_MOST_CROSSINGS.2) (pvs_nil))))))) (pbw_or1 (pb_cmp (opLt (hu64 hr)) sim_cmp (pv_scLen [("point", 4)] rfl sc_is_web.nd (hu64 hr) z_len (pit_val (pv_var 1)) (blkOk_by (N := n_is_web) (sc := defScope s_is_web) (by decide +kernel)) (fun _ _ _ _ _ => pgt_name 4 sc_is_web.nd) (fun _ _ _ _ _ => pbs_nil) (fun _ _ _ _ _ => pv_var 4)) (pv_len z_len (pvs_cons (pv_var 1) (pvs_nil))) (nomark _))))) (pzs_one (pz_ret (pv_bl))) (pzs_nil)) (pzs_one (pz_ret (pv_and (pv_cal c_is_row (hr.mono (by decide)) hgu (pvs_cons (pv_var 2) (pvs_cons (pv_int) (pvs_cons (pv_glob (by rfl) g_MOST_ROADS.1 g_MOST_ROADS.2) (pvs_cons (pv_int) (pvs_nil)))))) (pv_one (pv_all rfl z_all (pvs_cons (pv_lc [("road", 3)] rfl sc_is_web.nd (pit_val (pv_var 2)) (blkOk_by (N := n_is_web) (sc := defScope s_is_web) (by decide +kernel)) (fun _ _ _ _ _ => pgt_name 3 sc_is_web.nd) (fun _ _ _ _ _ => pbs_nil) (fun _ _ _ _ _ => pv_cal c_is_road (hr.mono (by decide)) hgu (pvs_cons (pv_var 1) (pvs_cons (pv_var 3) (pvs_nil))))) (pvs_nil))))))))), ex_is_web h⟩)
abbrev s_need_web : Stmt := topS 37
abbrev n_need_web : List Str := ["thing"]
theorem sc_need_web : FnScope n_need_web ["thing"] (defScope s_need_web) := ⟨rfl, rfl, rfl, by decide +kernel, rfl, by decide +kernel, by decide +kernel⟩
theorem ok_need_web {f : Addr} {dV : Value} {fd : FuncData} (F : FunV K "need_web" "need_web" s_need_web dV f fd) (c_is_web : Cal P w K mg base 6 "is_web" [] sp_is_web) : FnG P w K mg base 7 f fd ["thing"] sp_need_web :=
  okG F sc_need_web len_need_web mono_need_web (fun cdv A outer s S0 H0 E Q Ep xs => by
    intro X hr hgu hE h
    exact ⟨b_need_web, pzs_one (pz_if (pb_not (pb_val (pv_cal c_is_web (hr.mono (by decide)) hgu (pvs_cons (pv_var 0) (pvs_nil))))) (pzs_one (pz_never)) (pzs_nil)), ex_need_web h⟩)
abbrev s_corners_of : Stmt := topS 38
abbrev n_corners_of : List Str := ["web", "road", "one", "other", "middle", "ways"]
theorem sc_corners_of : FnScope n_corners_of ["web", "road"] (defScope s_corners_of) := ⟨rfl, rfl, rfl, by decide +kernel, rfl, by decide +kernel, by decide +kernel⟩
theorem ok_corners_of {f : Addr} {dV : Value} {fd : FuncData} (F : FunV K "corners_of" "corners_of" s_corners_of dV f fd) : FnG P w K mg base 1 f fd ["web", "road"] sp_corners_of :=
  okG F sc_corners_of len_corners_of mono_corners_of (fun cdv A outer s S0 H0 E Q Ep xs => by
    intro X hr hgu hE h
    exact ⟨b_corners_of, pzs_cons (pz_tgt (t := .tp [.nm 2, .nm 3, .nm 4, .nm 5]) (pv_ix (pv_ix (pv_var 0) (pv_int)) (pv_var 1)) (pgt_tup rfl (pgt_cons (pgt_name 2 sc_corners_of.nd) (pgt_cons (pgt_name 3 sc_corners_of.nd) (pgt_cons (pgt_name 4 sc_corners_of.nd) (pgt_cons (pgt_name 5 sc_corners_of.nd) (pgt_nil))))))) (pzs_one (pz_ret (pv_add (pv_add (pv_tup (pvs_cons (pv_ix (pv_ix (pv_var 0) (pv_int)) (pv_var 2)) (pvs_nil))) (pv_var 4)) (pv_tup (pvs_cons (pv_ix (pv_ix (pv_var 0) (pv_int)) (pv_var 3)) (pvs_nil)))))), ex_corners_of h⟩)
abbrev s_pieces_of : Stmt := topS 39
abbrev n_pieces_of : List Str := ["web", "road", "line"]
theorem sc_pieces_of : FnScope n_pieces_of ["web", "road"] (defScope s_pieces_of) := ⟨rfl, rfl, rfl, by decide +kernel, rfl, by decide +kernel, by decide +kernel⟩
theorem ok_pieces_of {f : Addr} {dV : Value} {fd : FuncData} (F : FunV K "pieces_of" "pieces_of" s_pieces_of dV f fd) (z_list : mg "list" = none) (z_zip : mg "zip" = none) (c_corners_of : Cal P w K mg base 1 "corners_of" [] sp_corners_of) : FnG P w K mg base 2 f fd ["web", "road"] sp_pieces_of :=
  okG F sc_pieces_of len_pieces_of mono_pieces_of (fun cdv A outer s S0 H0 E Q Ep xs => by
    intro X hr hgu hE h
    exact ⟨b_pieces_of, pzs_cons (pz_set 2 sc_pieces_of.nd (pv_cal c_corners_of (hr.mono (by decide)) hgu (pvs_cons (pv_var 0) (pvs_cons (pv_var 1) (pvs_nil))))) (pzs_one (pz_ret (pv_lz rfl z_list z_zip (pvs_cons (pv_var 2) (pvs_cons (pv_slice (pv_var 2) (pvo_some (pv_int)) (pvo_none)) (pvs_nil)))))), ex_pieces_of h⟩)
abbrev s_share_near : Stmt := topS 40
abbrev n_share_near : List Str := ["one", "other", "point", "top", "bottom", "here", "there", "its", "way", "share"]
theorem sc_share_near : FnScope n_share_near ["one", "other", "point"] (defScope s_share_near) := ⟨rfl, rfl, rfl, by decide +kernel, rfl, by decide +kernel, by decide +kernel⟩
theorem ok_share_near {f : Addr} {dV : Value} {fd : FuncData} (F : FunV K "share_near" "share_near" s_share_near dV f fd) (z_zip : mg "zip" = none) (g_NOUGHT : ∃ u, mg "NOUGHT" = some u ∧ KRep K v_NOUGHT u) (g_ONE : ∃ u, mg "ONE" = some u ∧ KRep K v_ONE u) (c_less : Cal P w K mg base 1 "less" [] sp_less) (c_minus : Cal P w K mg base 3 "minus" [] sp_minus) (c_over : Cal P w K mg base 3 "over" [] sp_over) (c_plus : Cal P w K mg base 3 "plus" [] sp_plus) (c_times : Cal P w K mg base 3 "times" [] sp_times) : FnG P w K mg base 4 f fd ["one", "other", "point"] sp_share_near :=
  okG F sc_share_near len_share_near mono_share_near (fun cdv A outer s S0 H0 E Q Ep xs => by
    intro X hr hgu hE h
    have hps : PassesOwn (model X.prog X.w) X.A X.env X.xe := passes_of rfl
    obtain ⟨u_NOUGHT, g_NOUGHT⟩ := g_NOUGHT
    obtain ⟨u_ONE, g_ONE⟩ := g_ONE
    exact ⟨b_share_near, pzs_cons (pz_par 3 4 rfl sc_share_near.nd (pvs_cons (pv_glob (by rfl) g_NOUGHT.1 g_NOUGHT.2) (pvs_cons (pv_glob (by rfl) g_NOUGHT.1 g_NOUGHT.2) (pvs_nil)))) (pzs_cons (pz_beg [5, 6, 7, 8] (pz_for hps rfl (pit_zip3 z_zip (pvs_cons (pv_var 0) (pvs_cons (pv_var 1) (pvs_cons (pv_var 2) (pvs_nil))))) (pgt_tup rfl (pgt_cons (pgt_name 5 sc_share_near.nd) (pgt_cons (pgt_name 6 sc_share_near.nd) (pgt_cons (pgt_name 7 sc_share_near.nd) (pgt_nil))))) (pzs_end [5, 6, 7, 8] (pzs_cons (pz_set 8 sc_share_near.nd (pv_cal c_minus (hr.mono (by decide)) hgu (pvs_cons (pv_var 6) (pvs_cons (pv_var 5) (pvs_nil))))) (pzs_cons (pz_set 3 sc_share_near.nd (pv_cal c_plus (hr.mono (by decide)) hgu (pvs_cons (pv_var 3) (pvs_cons (pv_cal c_times (hr.mono (by decide)) hgu (pvs_cons (pv_var 8) (pvs_cons (pv_cal c_minus (hr.mono (by decide)) hgu (pvs_cons (pv_var 7) (pvs_cons (pv_var 5) (pvs_nil)))) (pvs_nil)))) (pvs_nil))))) (pzs_one (pz_set 4 sc_share_near.nd (pv_cal c_plus (hr.mono (by decide)) hgu (pvs_cons (pv_var 4) (pvs_cons (pv_cal c_times (hr.mono (by decide)) hgu (pvs_cons (pv_var 8) (pvs_cons (pv_var 8) (pvs_nil)))) (pvs_nil))))))))))) (pzs_cons (pz_set 9 sc_share_near.nd (pv_cal c_over (hr.mono (by decide)) hgu (pvs_cons (pv_var 3) (pvs_cons (pv_var 4) (pvs_nil))))) (pzs_cons (pz_if (pb_val (pv_cal c_less (hr.mono (by decide)) hgu (pvs_cons (pv_var 9) (pvs_cons (pv_glob (by rfl) g_NOUGHT.1 g_NOUGHT.2) (pvs_nil))))) (pzs_one (pz_ret (pv_glob (by rfl) g_NOUGHT.1 g_NOUGHT.2))) (pzs_nil)) (pzs_one (pz_ret (pv_if (pb_val (pv_cal c_less (hr.mono (by decide)) hgu (pvs_cons (pv_glob (by rfl) g_ONE.1 g_ONE.2) (pvs_cons (pv_var 9) (pvs_nil))))) (pv_glob (by rfl) g_ONE.1 g_ONE.2) (pv_var 9))))))), ex_share_near h⟩)
abbrev s_nearest_by : Stmt := topS 41
abbrev n_nearest_by : List Str := ["web", "point", "rows", "road", "ahead", "one", "other", "share", "long", "off", "far"]
theorem sc_nearest_by : FnScope n_nearest_by ["web", "point"] (defScope s_nearest_by) := ⟨rfl, rfl, rfl, by decide +kernel, rfl, by decide +kernel, by decide +kernel⟩
theorem ok_nearest_by {f : Addr} {dV : Value} {fd : FuncData} (F : FunV K "nearest_by" "nearest_by" s_nearest_by dV f fd) (z_len : mg "len" = none) (z_range : mg "range" = none) (g_NOUGHT : ∃ u, mg "NOUGHT" = some u ∧ KRep K v_NOUGHT u) (c_at_share : Cal P w K mg base 4 "at_share" [] sp_at_share) (c_least_of : Cal P w K mg base 3 "least_of" [] sp_least_of) (c_pieces_of : Cal P w K mg base 2 "pieces_of" [] sp_pieces_of) (c_plus : Cal P w K mg base 3 "plus" [] sp_plus) (c_share_near : Cal P w K mg base 4 "share_near" [] sp_share_near) (c_squared_of : Cal P w K mg base 5 "squared_of" [] sp_squared_of) (c_streetwise_of : Cal P w K mg base 5 "streetwise_of" [] sp_streetwise_of) (c_times : Cal P w K mg base 3 "times" [] sp_times) (c_whole : Cal P w K mg base 1 "whole" [] sp_whole) : FnG P w K mg base 6 f fd ["web", "point"] sp_nearest_by :=
  okG F sc_nearest_by len_nearest_by mono_nearest_by (fun cdv A outer s S0 H0 E Q Ep xs => by
    intro X hr hgu hE h
    have hps : PassesOwn (model X.prog X.w) X.A X.env X.xe := passes_of rfl
    obtain ⟨u_NOUGHT, g_NOUGHT⟩ := g_NOUGHT
    exact ⟨b_nearest_by, pzs_cons (pz_set 2 sc_nearest_by.nd (pv_lstT (pvs_nil))) (pzs_cons (pz_beg [3, 4, 5, 6, 7, 8, 9] (pz_for hps rfl (pit_range1 z_range (pvs_cons (pv_len z_len (pvs_cons (pv_ix (pv_var 0) (pv_int)) (pvs_nil))) (pvs_nil))) (pgt_name 3 sc_nearest_by.nd) (pzs_end [3, 4, 5, 6, 7, 8, 9] (pzs_cons (pz_set 4 sc_nearest_by.nd (pv_glob (by rfl) g_NOUGHT.1 g_NOUGHT.2)) (pzs_one (pz_beg [5, 6, 7, 8, 9] (pz_for hps rfl (pit_val (pv_cal c_pieces_of (hr.mono (by decide)) hgu (pvs_cons (pv_var 0) (pvs_cons (pv_var 3) (pvs_nil))))) (pgt_tup rfl (pgt_cons (pgt_name 5 sc_nearest_by.nd) (pgt_cons (pgt_name 6 sc_nearest_by.nd) (pgt_nil)))) (pzs_end [5, 6, 7, 8, 9] (pzs_cons (pz_par 7 8 rfl sc_nearest_by.nd (pvs_cons (pv_cal c_share_near (hr.mono (by decide)) hgu (pvs_cons (pv_var 5) (pvs_cons (pv_var 6) (pvs_cons (pv_var 1) (pvs_nil))))) (pvs_cons (pv_cal c_streetwise_of (hr.mono (by decide)) hgu (pvs_cons (pv_var 5) (pvs_cons (pv_var 6) (pvs_nil)))) (pvs_nil)))) (pzs_cons (pz_set 9 sc_nearest_by.nd (pv_cal c_squared_of (hr.mono (by decide)) hgu (pvs_cons (pv_cal c_at_share (hr.mono (by decide)) hgu (pvs_cons (pv_var 5) (pvs_cons (pv_var 6) (pvs_cons (pv_var 7) (pvs_nil))))) (pvs_cons (pv_var 1) (pvs_nil))))) (pzs_cons (pz_expr (pv_append (pv_var 2) (pvs_cons (pv_tup (pvs_cons (pv_var 9) (pvs_cons (pv_cal c_whole (hr.mono (by decide)) hgu (pvs_cons (pv_var 3) (pvs_nil))) (pvs_cons (pv_cal c_plus (hr.mono (by decide)) hgu (pvs_cons (pv_var 4) (pvs_cons (pv_cal c_times (hr.mono (by decide)) hgu (pvs_cons (pv_var 7) (pvs_cons (pv_var 8) (pvs_nil)))) (pvs_nil)))) (pvs_nil))))) (pvs_nil)))) (pzs_one (pz_set 4 sc_nearest_by.nd (pv_cal c_plus (hr.mono (by decide)) hgu (pvs_cons (pv_var 4) (pvs_cons (pv_var 8) (pvs_nil))))))))))))))))) (pzs_cons (pz_if (pb_cmp (opEq (hu64 hr)) sim_eq (pv_var 2) (pv_lst (pvs_nil)) (nomark _)) (pzs_one (pz_ret (pv_non))) (pzs_nil)) (pzs_cons (pz_tgt (t := .tp [.nm 9, .nm 3, .nm 10]) (pv_cal c_least_of (hr.mono (by decide)) hgu (pvs_cons (pv_var 2) (pvs_nil))) (pgt_tup rfl (pgt_cons (pgt_name 9 sc_nearest_by.nd) (pgt_cons (pgt_name 3 sc_nearest_by.nd) (pgt_cons (pgt_name 10 sc_nearest_by.nd) (pgt_nil)))))) (pzs_one (pz_ret (pv_tup (pvs_cons (pv_var 9) (pvs_cons (pv_ix (pv_var 3) (pv_int)) (pvs_cons (pv_var 10) (pvs_nil)))))))))), ex_nearest_by h⟩)
abbrev s_nearest_spot : Stmt := topS 42
abbrev n_nearest_spot : List Str := ["web", "point"]
theorem sc_nearest_spot : FnScope n_nearest_spot ["web", "point"] (defScope s_nearest_spot) := ⟨rfl, rfl, rfl, by decide +kernel, rfl, by decide +kernel, by decide +kernel⟩
theorem ok_nearest_spot {f : Addr} {dV : Value} {fd : FuncData} (F : FunV K "nearest_spot" "nearest_spot" s_nearest_spot dV f fd) (c_nearest_by : Cal P w K mg base 6 "nearest_by" [] sp_nearest_by) (c_need_point : Cal P w K mg base 4 "need_point" [] sp_need_point) (c_need_web : Cal P w K mg base 7 "need_web" [] sp_need_web) : FnG P w K mg base 8 f fd ["web", "point"] sp_nearest_spot :=
  okG F sc_nearest_spot len_nearest_spot mono_nearest_spot (fun cdv A outer s S0 H0 E Q Ep xs => by
    intro X hr hgu hE h
    exact ⟨b_nearest_spot, pzs_cons (pz_expr (pv_cal c_need_web (hr.mono (by decide)) hgu (pvs_cons (pv_var 0) (pvs_nil)))) (pzs_cons (pz_expr (pv_cal c_need_point (hr.mono (by decide)) hgu (pvs_cons (pv_var 1) (pvs_nil)))) (pzs_one (pz_ret (pv_cal c_nearest_by (hr.mono (by decide)) hgu (pvs_cons (pv_var 0) (pvs_cons (pv_var 1) (pvs_nil))))))), ex_nearest_spot h⟩)
abbrev s__law_cell_at : Stmt := topS 44
abbrev n__law_cell_at : List Str := ["_law_script", "_law_k"]
theorem sc__law_cell_at : FnScope n__law_cell_at ["_law_script", "_law_k"] (defScope s__law_cell_at) := ⟨rfl, rfl, rfl, by decide +kernel, rfl, by decide +kernel, by decide +kernel⟩
theorem ok__law_cell_at {f : Addr} {dV : Value} {fd : FuncData} (F : FunV K "_law_cell_at" "_law_cell_at" s__law_cell_at dV f fd) (z_len : mg "len" = none) : FnG P w K mg base 1 f fd ["_law_script", "_law_k"] sp__law_cell_at :=
  okG F sc__law_cell_at len__law_cell_at mono__law_cell_at (fun cdv A outer s S0 H0 E Q Ep xs => by
    intro X hr hgu hE h
    exact ⟨b__law_cell_at, pzs_cons (pz_if (pb_cmp (opLt (hu64 hr)) sim_cmp (pv_var 1) (pv_len z_len (pvs_cons (pv_var 0) (pvs_nil))) (nomark _)) (pzs_one (pz_ret (pv_ix (pv_var 0) (pv_var 1)))) (pzs_nil)) (pzs_one (pz_ret (pv_int))), ex__law_cell_at h⟩)
abbrev s__law_state : Stmt := topS 45
abbrev n__law_state : List Str := ["_law_script", "_law_k", "_law_cell"]
theorem sc__law_state : FnScope n__law_state ["_law_script", "_law_k"] (defScope s__law_state) := ⟨rfl, rfl, rfl, by decide +kernel, rfl, by decide +kernel, by decide +kernel⟩
theorem ok__law_state {f : Addr} {dV : Value} {fd : FuncData} (F : FunV K "_law_state" "_law_state" s__law_state dV f fd) (z_max : mg "max" = none) (c__law_cell_at : Cal P w K mg base 1 "_law_cell_at" [] sp__law_cell_at) : FnG P w K mg base 2 f fd ["_law_script", "_law_k"] sp__law_state :=
  okG F sc__law_state len__law_state mono__law_state (fun cdv A outer s S0 H0 E Q Ep xs => by
    intro X hr hgu hE h
    exact ⟨b__law_state, pzs_cons (pz_set 2 sc__law_state.nd (pv_cal c__law_cell_at (hr.mono (by decide)) hgu (pvs_cons (pv_var 0) (pvs_cons (pv_var 1) (pvs_nil))))) (pzs_one (pz_ret (pv_lstT (pvs_cons (pv_max rfl z_max (pvs_cons (pv_int) (pvs_cons (pv_sub (pv_var 2) (pv_pow (pv_int) (pv_int))) (pvs_nil)))) (pvs_cons (pv_add (pv_mod (pv_var 2) (pv_int)) (pv_int)) (pvs_cons (pv_int) (pvs_nil))))))), ex__law_state h⟩)
abbrev s__law_choice : Stmt := topS 46
abbrev n__law_choice : List Str := ["_law_state_here", "_law_many", "_law_found", "_law_mixed"]
theorem sc__law_choice : FnScope n__law_choice ["_law_state_here", "_law_many"] (defScope s__law_choice) := ⟨rfl, rfl, rfl, by decide +kernel, rfl, by decide +kernel, by decide +kernel⟩
theorem ok__law_choice {f : Addr} {dV : Value} {fd : FuncData} (F : FunV K "_law_choice" "_law_choice" s__law_choice dV f fd) : FnG P w K mg base 1 f fd ["_law_state_here", "_law_many"] sp__law_choice :=
  okG F sc__law_choice len__law_choice mono__law_choice (fun cdv A outer s S0 H0 E Q Ep xs => by
    intro X hr hgu hE h
    exact ⟨b__law_choice, pzs_cons (pz_if (pb_cmp (opGt (hu64 hr)) sim_cmp (pv_ix (pv_var 0) (pv_int)) (pv_int) (nomark _)) (pzs_cons (pz_set 2 sc__law_choice.nd (pv_mod (pv_ix (pv_var 0) (pv_int)) (pv_var 1))) (pzs_cons (pz_setIx (pv_div (pv_ix (pv_var 0) (pv_int)) (pv_var 1)) (pv_var 0) (pv_int)) (pzs_one (pz_ret (pv_var 2))))) (pzs_nil)) (pzs_cons (pz_setIx (pv_add (pv_ix (pv_var 0) (pv_int)) (pv_int)) (pv_var 0) (pv_int)) (pzs_cons (pz_setIx (pv_mod (pv_add (pv_add (pv_mul (pv_ix (pv_var 0) (pv_int)) (pv_int)) (pv_int)) (pv_ix (pv_var 0) (pv_int))) (pv_int)) (pv_var 0) (pv_int)) (pzs_cons (pz_set 3 sc__law_choice.nd (pv_mod (pv_add (pv_add (pv_mul (pv_ix (pv_var 0) (pv_int)) (pv_ix (pv_var 0) (pv_int))) (pv_mul (pv_int) (pv_ix (pv_var 0) (pv_int)))) (pv_int)) (pv_int))) (pzs_cons (pz_set 3 sc__law_choice.nd (pv_mod (pv_add (pv_mul (pv_var 3) (pv_var 3)) (pv_mul (pv_int) (pv_var 3))) (pv_int))) (pzs_one (pz_ret (pv_mod (pv_div (pv_var 3) (pv_int)) (pv_var 1)))))))), ex__law_choice h⟩)
abbrev s__law_low : Stmt := topS 47
abbrev n__law_low : List Str := ["_law_top", "_law_bottom", "_law_one", "_law_other", "_law_by"]
theorem sc__law_low : FnScope n__law_low ["_law_top", "_law_bottom"] (defScope s__law_low) := ⟨rfl, rfl, rfl, by decide +kernel, rfl, by decide +kernel, by decide +kernel⟩
theorem ok__law_low {f : Addr} {dV : Value} {fd : FuncData} (F : FunV K "_law_low" "_law_low" s__law_low dV f fd) (z_abs : mg "abs" = none) : FnG P w K mg base 1 f fd ["_law_top", "_law_bottom"] sp__law_low :=
  okG F sc__law_low len__law_low mono__law_low (fun cdv A outer s S0 H0 E Q Ep xs => by
    intro X hr hgu hE h
    have hps : PassesOwn (model X.prog X.w) X.A X.env X.xe := passes_of rfl
    exact ⟨b__law_low, pzs_cons (pz_par 2 3 rfl sc__law_low.nd (pvs_cons (pv_abs z_abs (pvs_cons (pv_var 0) (pvs_nil))) (pvs_cons (pv_abs z_abs (pvs_cons (pv_var 1) (pvs_nil))) (pvs_nil)))) (pzs_cons (pz_while hps (pb_cmp (opGt (hu64 hr)) sim_cmp (pv_var 3) (pv_int) (nomark _)) (pzs_one (pz_par 2 3 rfl sc__law_low.nd (pvs_cons (pv_var 3) (pvs_cons (pv_mod (pv_var 2) (pv_var 3)) (pvs_nil)))))) (pzs_cons (pz_set 4 sc__law_low.nd (pv_if (pb_cmp (opGt (hu64 hr)) sim_cmp (pv_var 1) (pv_int) (nomark _)) (pv_var 2) (pv_sub (pv_int) (pv_var 2)))) (pzs_one (pz_ret (pv_tup (pvs_cons (pv_div (pv_var 0) (pv_var 4)) (pvs_cons (pv_div (pv_var 1) (pv_var 4)) (pvs_nil)))))))), ex__law_low h⟩)
abbrev s__law_plus : Stmt := topS 48
abbrev n__law_plus : List Str := ["_law_one", "_law_other"]
theorem sc__law_plus : FnScope n__law_plus ["_law_one", "_law_other"] (defScope s__law_plus) := ⟨rfl, rfl, rfl, by decide +kernel, rfl, by decide +kernel, by decide +kernel⟩
theorem ok__law_plus {f : Addr} {dV : Value} {fd : FuncData} (F : FunV K "_law_plus" "_law_plus" s__law_plus dV f fd) (c__law_low : Cal P w K mg base 1 "_law_low" [] sp__law_low) : FnG P w K mg base 2 f fd ["_law_one", "_law_other"] sp__law_plus :=
  okG F sc__law_plus len__law_plus mono__law_plus (fun cdv A outer s S0 H0 E Q Ep xs => by
    intro X hr hgu hE h
    exact ⟨b__law_plus, pzs_one (pz_ret (pv_cal c__law_low (hr.mono (by decide)) hgu (pvs_cons (pv_add (pv_mul (pv_ix (pv_var 0) (pv_int)) (pv_ix (pv_var 1) (pv_int))) (pv_mul (pv_ix (pv_var 1) (pv_int)) (pv_ix (pv_var 0) (pv_int)))) (pvs_cons (pv_mul (pv_ix (pv_var 0) (pv_int)) (pv_ix (pv_var 1) (pv_int))) (pvs_nil))))), ex__law_plus h⟩)
abbrev s__law_minus : Stmt := topS 49
abbrev n__law_minus : List Str := ["_law_one", "_law_other"]
theorem sc__law_minus : FnScope n__law_minus ["_law_one", "_law_other"] (defScope s__law_minus) := ⟨rfl, rfl, rfl, by decide +kernel, rfl, by decide +kernel, by decide +kernel⟩
theorem ok__law_minus {f : Addr} {dV : Value} {fd : FuncData} (F : FunV K "_law_minus" "_law_minus" s__law_minus dV f fd) (c__law_low : Cal P w K mg base 1 "_law_low" [] sp__law_low) : FnG P w K mg base 2 f fd ["_law_one", "_law_other"] sp__law_minus :=
  okG F sc__law_minus len__law_minus mono__law_minus (fun cdv A outer s S0 H0 E Q Ep xs => by
    intro X hr hgu hE h
    exact ⟨b__law_minus, pzs_one (pz_ret (pv_cal c__law_low (hr.mono (by decide)) hgu (pvs_cons (pv_sub (pv_mul (pv_ix (pv_var 0) (pv_int)) (pv_ix (pv_var 1) (pv_int))) (pv_mul (pv_ix (pv_var 1) (pv_int)) (pv_ix (pv_var 0) (pv_int)))) (pvs_cons (pv_mul (pv_ix (pv_var 0) (pv_int)) (pv_ix (pv_var 1) (pv_int))) (pvs_nil))))), ex__law_minus h⟩)
abbrev s__law_times : Stmt := topS 50
abbrev n__law_times : List Str := ["_law_one", "_law_other"]
theorem sc__law_times : FnScope n__law_times ["_law_one", "_law_other"] (defScope s__law_times) := ⟨rfl, rfl, rfl, by decide +kernel, rfl, by decide +kernel, by decide +kernel⟩
theorem ok__law_times {f : Addr} {dV : Value} {fd : FuncData} (F : FunV K "_law_times" "_law_times" s__law_times dV f fd) (c__law_low : Cal P w K mg base 1 "_law_low" [] sp__law_low) : FnG P w K mg base 2 f fd ["_law_one", "_law_other"] sp__law_times :=
  okG F sc__law_times len__law_times mono__law_times (fun cdv A outer s S0 H0 E Q Ep xs => by
    intro X hr hgu hE h
    exact ⟨b__law_times, pzs_one (pz_ret (pv_cal c__law_low (hr.mono (by decide)) hgu (pvs_cons (pv_mul (pv_ix (pv_var 0) (pv_int)) (pv_ix (pv_var 1) (pv_int))) (pvs_cons (pv_mul (pv_ix (pv_var 0) (pv_int)) (pv_ix (pv_var 1) (pv_int))) (pvs_nil))))), ex__law_times h⟩)
abbrev s__law_over : Stmt := topS 51
abbrev n__law_over : List Str := ["_law_one", "_law_other"]
theorem sc__law_over : FnScope n__law_over ["_law_one", "_law_other"] (defScope s__law_over) := ⟨rfl, rfl, rfl, by decide +kernel, rfl, by decide +kernel, by decide +kernel⟩
theorem ok__law_over {f : Addr} {dV : Value} {fd : FuncData} (F : FunV K "_law_over" "_law_over" s__law_over dV f fd) (c__law_low : Cal P w K mg base 1 "_law_low" [] sp__law_low) : FnG P w K mg base 2 f fd ["_law_one", "_law_other"] sp__law_over :=
  okG F sc__law_over len__law_over mono__law_over (fun cdv A outer s S0 H0 E Q Ep xs => by
    intro X hr hgu hE h
    exact ⟨b__law_over, pzs_one (pz_ret (pv_cal c__law_low (hr.mono (by decide)) hgu (pvs_cons (pv_mul (pv_ix (pv_var 0) (pv_int)) (pv_ix (pv_var 1) (pv_int))) (pvs_cons (pv_mul (pv_ix (pv_var 0) (pv_int)) (pv_ix (pv_var 1) (pv_int))) (pvs_nil))))), ex__law_over h⟩)
abbrev s__law_less : Stmt := topS 52
abbrev n__law_less : List Str := ["_law_one", "_law_other"]
theorem sc__law_less : FnScope n__law_less ["_law_one", "_law_other"] (defScope s__law_less) := ⟨rfl, rfl, rfl, by decide +kernel, rfl, by decide +kernel, by decide +kernel⟩
theorem ok__law_less {f : Addr} {dV : Value} {fd : FuncData} (F : FunV K "_law_less" "_law_less" s__law_less dV f fd) : FnG P w K mg base 1 f fd ["_law_one", "_law_other"] sp__law_less :=
  okG F sc__law_less len__law_less mono__law_less (fun cdv A outer s S0 H0 E Q Ep xs => by
    intro X hr hgu hE h
    exact ⟨b__law_less, pzs_one (pz_ret (pv_cmp (opLt (hu64 hr)) sim_cmp (pv_mul (pv_ix (pv_var 0) (pv_int)) (pv_ix (pv_var 1) (pv_int))) (pv_mul (pv_ix (pv_var 1) (pv_int)) (pv_ix (pv_var 0) (pv_int))) (nomark _))), ex__law_less h⟩)
abbrev s__law_amount : Stmt := topS 53
abbrev n__law_amount : List Str := ["_law_one"]
theorem sc__law_amount : FnScope n__law_amount ["_law_one"] (defScope s__law_amount) := ⟨rfl, rfl, rfl, by decide +kernel, rfl, by decide +kernel, by decide +kernel⟩
theorem ok__law_amount {f : Addr} {dV : Value} {fd : FuncData} (F : FunV K "_law_amount" "_law_amount" s__law_amount dV f fd) (z_abs : mg "abs" = none) : FnG P w K mg base 1 f fd ["_law_one"] sp__law_amount :=
  okG F sc__law_amount len__law_amount mono__law_amount (fun cdv A outer s S0 H0 E Q Ep xs => by
    intro X hr hgu hE h
    exact ⟨b__law_amount, pzs_one (pz_ret (pv_tup (pvs_cons (pv_abs z_abs (pvs_cons (pv_ix (pv_var 0) (pv_int)) (pvs_nil))) (pvs_cons (pv_ix (pv_var 0) (pv_int)) (pvs_nil))))), ex__law_amount h⟩)
abbrev s__law_any : Stmt := topS 54
abbrev n__law_any : List Str := ["_law_state_here", "_law_top", "_law_bottom"]
theorem sc__law_any : FnScope n__law_any ["_law_state_here"] (defScope s__law_any) := ⟨rfl, rfl, rfl, by decide +kernel, rfl, by decide +kernel, by decide +kernel⟩
theorem ok__law_any {f : Addr} {dV : Value} {fd : FuncData} (F : FunV K "_law_any" "_law_any" s__law_any dV f fd) (c__law_choice : Cal P w K mg base 1 "_law_choice" [] sp__law_choice) (c__law_low : Cal P w K mg base 1 "_law_low" [] sp__law_low) : FnG P w K mg base 2 f fd ["_law_state_here"] sp__law_any :=
  okG F sc__law_any len__law_any mono__law_any (fun cdv A outer s S0 H0 E Q Ep xs => by
    intro X hr hgu hE h
    exact ⟨b__law_any, pzs_cons (pz_set 1 sc__law_any.nd (pv_cal c__law_choice (hr.mono (by decide)) hgu (pvs_cons (pv_var 0) (pvs_cons (pv_ix (pv_lst (pvs_cons (pv_int) (pvs_cons (pv_int) (pvs_cons (pv_pow (pv_int) (pv_int)) (pvs_nil))))) (pv_cal c__law_choice (hr.mono (by decide)) hgu (pvs_cons (pv_var 0) (pvs_cons (pv_int) (pvs_nil))))) (pvs_nil))))) (pzs_cons (pz_set 2 sc__law_any.nd (pv_ix (pv_lst (pvs_cons (pv_int) (pvs_cons (pv_int) (pvs_cons (pv_int) (pvs_cons (pv_int) (pvs_cons (pv_int) (pvs_cons (pv_add (pv_pow (pv_int) (pv_int)) (pv_int)) (pvs_nil)))))))) (pv_cal c__law_choice (hr.mono (by decide)) hgu (pvs_cons (pv_var 0) (pvs_cons (pv_int) (pvs_nil)))))) (pzs_one (pz_ret (pv_cal c__law_low (hr.mono (by decide)) hgu (pvs_cons (pv_mul (pv_var 1) (pv_ix (pv_lst (pvs_cons (pv_int) (pvs_cons (pv_neg (pv_int)) (pvs_nil)))) (pv_cal c__law_choice (hr.mono (by decide)) hgu (pvs_cons (pv_var 0) (pvs_cons (pv_int) (pvs_nil)))))) (pvs_cons (pv_var 2) (pvs_nil))))))), ex__law_any h⟩)
abbrev s__law_any_point : Stmt := topS 55
abbrev n__law_any_point : List Str := ["_law_state_here"]
theorem sc__law_any_point : FnScope n__law_any_point ["_law_state_here"] (defScope s__law_any_point) := ⟨rfl, rfl, rfl, by decide +kernel, rfl, by decide +kernel, by decide +kernel⟩
theorem ok__law_any_point {f : Addr} {dV : Value} {fd : FuncData} (F : FunV K "_law_any_point" "_law_any_point" s__law_any_point dV f fd) (c__law_any : Cal P w K mg base 2 "_law_any" [] sp__law_any) : FnG P w K mg base 3 f fd ["_law_state_here"] sp__law_any_point :=
  okG F sc__law_any_point len__law_any_point mono__law_any_point (fun cdv A outer s S0 H0 E Q Ep xs => by
    intro X hr hgu hE h
    exact ⟨b__law_any_point, pzs_one (pz_ret (pv_tup (pvs_cons (pv_cal c__law_any (hr.mono (by decide)) hgu (pvs_cons (pv_var 0) (pvs_nil))) (pvs_cons (pv_cal c__law_any (hr.mono (by decide)) hgu (pvs_cons (pv_var 0) (pvs_nil))) (pvs_nil))))), ex__law_any_point h⟩)
abbrev s__law_land_number : Stmt := topS 56
abbrev n__law_land_number : List Str := ["_law_state_here", "_law_bottom"]
theorem sc__law_land_number : FnScope n__law_land_number ["_law_state_here"] (defScope s__law_land_number) := ⟨rfl, rfl, rfl, by decide +kernel, rfl, by decide +kernel, by decide +kernel⟩
theorem ok__law_land_number {f : Addr} {dV : Value} {fd : FuncData} (F : FunV K "_law_land_number" "_law_land_number" s__law_land_number dV f fd) (c__law_choice : Cal P w K mg base 1 "_law_choice" [] sp__law_choice) (c__law_low : Cal P w K mg base 1 "_law_low" [] sp__law_low) : FnG P w K mg base 2 f fd ["_law_state_here"] sp__law_land_number :=
  okG F sc__law_land_number len__law_land_number mono__law_land_number (fun cdv A outer s S0 H0 E Q Ep xs => by
    intro X hr hgu hE h
    exact ⟨b__law_land_number, pzs_cons (pz_set 1 sc__law_land_number.nd (pv_ix (pv_lst (pvs_cons (pv_int) (pvs_cons (pv_int) (pvs_cons (pv_int) (pvs_cons (pv_int) (pvs_cons (pv_int) (pvs_cons (pv_int) (pvs_nil)))))))) (pv_cal c__law_choice (hr.mono (by decide)) hgu (pvs_cons (pv_var 0) (pvs_cons (pv_int) (pvs_nil)))))) (pzs_one (pz_ret (pv_cal c__law_low (hr.mono (by decide)) hgu (pvs_cons (pv_cal c__law_choice (hr.mono (by decide)) hgu (pvs_cons (pv_var 0) (pvs_cons (pv_mul (pv_int) (pv_var 1)) (pvs_nil)))) (pvs_cons (pv_var 1) (pvs_nil)))))), ex__law_land_number h⟩)
abbrev s__law_land_point : Stmt := topS 57
abbrev n__law_land_point : List Str := ["_law_state_here"]
theorem sc__law_land_point : FnScope n__law_land_point ["_law_state_here"] (defScope s__law_land_point) := ⟨rfl, rfl, rfl, by decide +kernel, rfl, by decide +kernel, by decide +kernel⟩
theorem ok__law_land_point {f : Addr} {dV : Value} {fd : FuncData} (F : FunV K "_law_land_point" "_law_land_point" s__law_land_point dV f fd) (c__law_land_number : Cal P w K mg base 2 "_law_land_number" [] sp__law_land_number) : FnG P w K mg base 3 f fd ["_law_state_here"] sp__law_land_point :=
  okG F sc__law_land_point len__law_land_point mono__law_land_point (fun cdv A outer s S0 H0 E Q Ep xs => by
    intro X hr hgu hE h
    exact ⟨b__law_land_point, pzs_one (pz_ret (pv_tup (pvs_cons (pv_cal c__law_land_number (hr.mono (by decide)) hgu (pvs_cons (pv_var 0) (pvs_nil))) (pvs_cons (pv_cal c__law_land_number (hr.mono (by decide)) hgu (pvs_cons (pv_var 0) (pvs_nil))) (pvs_nil))))), ex__law_land_point h⟩)
abbrev s__law_web : Stmt := topS 58
abbrev n__law_web : List Str := ["_law_state_here", "_law_crossings", "_law_go", "_law_point", "_law_roads_here", "_law_one", "_law_other", "_law_line", "_law_lap"]
theorem sc__law_web : FnScope n__law_web ["_law_state_here"] (defScope s__law_web) := ⟨rfl, rfl, rfl, by decide +kernel, rfl, by decide +kernel, by decide +kernel⟩
theorem ok__law_web {f : Addr} {dV : Value} {fd : FuncData} (F : FunV K "_law_web" "_law_web" s__law_web dV f fd) (z_int : mg "int" = none) (z_len : mg "len" = none) (z_range : mg "range" = none) (z_tuple : mg "tuple" = none) (c__law_choice : Cal P w K mg base 1 "_law_choice" [] sp__law_choice) (c__law_land_point : Cal P w K mg base 3 "_law_land_point" [] sp__law_land_point) : FnG P w K mg base 4 f fd ["_law_state_here"] sp__law_web :=
  okG F sc__law_web len__law_web mono__law_web (fun cdv A outer s S0 H0 E Q Ep xs => by
    intro X hr hgu hE h
    have hps : PassesOwn (model X.prog X.w) X.A X.env X.xe := passes_of rfl
    exact ⟨b__law_web, pzs_cons (pz_set 1 sc__law_web.nd (pv_lstT (pvs_nil))) (pzs_cons (pz_beg [2, 3] (pz_for hps rfl (pit_range1 z_range (pvs_cons (pv_add (pv_int) (pv_cal c__law_choice (hr.mono (by decide)) hgu (pvs_cons (pv_var 0) (pvs_cons (pv_int) (pvs_nil))))) (pvs_nil))) (pgt_name 2 sc__law_web.nd) (pzs_end [2, 3] (pzs_cons (pz_set 3 sc__law_web.nd (pv_cal c__law_land_point (hr.mono (by decide)) hgu (pvs_cons (pv_var 0) (pvs_nil)))) (pzs_one (pz_if (pb_cmp (opNotIn (hu65 hr)) sim_notIn (pv_var 3) (pv_var 1) (by rfl)) (pzs_one (pz_expr (pv_append (pv_var 1) (pvs_cons (pv_var 3) (pvs_nil))))) (pzs_nil))))))) (pzs_cons (pz_set 4 sc__law_web.nd (pv_lstT (pvs_nil))) (pzs_cons (pz_beg [2, 3, 5, 6, 7, 8] (pz_for hps rfl (pit_range1 z_range (pvs_cons (pv_mul (pv_cal c__law_choice (hr.mono (by decide)) hgu (pvs_cons (pv_var 0) (pvs_cons (pv_int) (pvs_nil)))) (pv_intOf z_int (pvs_cons (pv_cmp (opGt (hu64 hr)) sim_cmp (pv_len z_len (pvs_cons (pv_var 1) (pvs_nil))) (pv_int) (nomark _)) (pvs_nil)))) (pvs_nil))) (pgt_name 2 sc__law_web.nd) (pzs_end [2, 3, 5, 6, 7, 8] (pzs_cons (pz_set 5 sc__law_web.nd (pv_cal c__law_choice (hr.mono (by decide)) hgu (pvs_cons (pv_var 0) (pvs_cons (pv_len z_len (pvs_cons (pv_var 1) (pvs_nil))) (pvs_nil))))) (pzs_cons (pz_set 6 sc__law_web.nd (pv_mod (pv_add (pv_add (pv_var 5) (pv_int)) (pv_cal c__law_choice (hr.mono (by decide)) hgu (pvs_cons (pv_var 0) (pvs_cons (pv_sub (pv_len z_len (pvs_cons (pv_var 1) (pvs_nil))) (pv_int)) (pvs_nil))))) (pv_len z_len (pvs_cons (pv_var 1) (pvs_nil))))) (pzs_cons (pz_set 7 sc__law_web.nd (pv_lstT (pvs_cons (pv_ix (pv_var 1) (pv_var 5)) (pvs_nil)))) (pzs_cons (pz_beg [3, 8] (pz_for hps rfl (pit_range1 z_range (pvs_cons (pv_cal c__law_choice (hr.mono (by decide)) hgu (pvs_cons (pv_var 0) (pvs_cons (pv_int) (pvs_nil)))) (pvs_nil))) (pgt_name 8 sc__law_web.nd) (pzs_end [3, 8] (pzs_cons (pz_set 3 sc__law_web.nd (pv_cal c__law_land_point (hr.mono (by decide)) hgu (pvs_cons (pv_var 0) (pvs_nil)))) (pzs_one (pz_if (pb_cmp (opNotIn (hu65 hr)) sim_notIn (pv_var 3) (pv_lst (pvs_cons (pv_ix (pv_var 7) (pv_neg (pv_int))) (pvs_cons (pv_ix (pv_var 1) (pv_var 6)) (pvs_nil)))) (by rfl)) (pzs_one (pz_expr (pv_append (pv_var 7) (pvs_cons (pv_var 3) (pvs_nil))))) (pzs_nil))))))) (pzs_one (pz_expr (pv_append (pv_var 4) (pvs_cons (pv_tup (pvs_cons (pv_var 5) (pvs_cons (pv_var 6) (pvs_cons (pv_tupleOf z_tuple (pvs_cons (pv_slice (pv_var 7) (pvo_some (pv_int)) (pvo_none)) (pvs_nil))) (pvs_cons (pv_add (pv_int) (pv_cal c__law_choice (hr.mono (by decide)) hgu (pvs_cons (pv_var 0) (pvs_cons (pv_int) (pvs_nil))))) (pvs_nil)))))) (pvs_nil)))))))))))) (pzs_one (pz_ret (pv_tup (pvs_cons (pv_tupleOf z_tuple (pvs_cons (pv_var 1) (pvs_nil))) (pvs_cons (pv_tupleOf z_tuple (pvs_cons (pv_var 4) (pvs_nil))) (pvs_nil))))))))), ex__law_web h⟩)
abbrev s__law_same : Stmt := topS 59
abbrev n__law_same : List Str := ["_law_found", "_law_due"]
theorem sc__law_same : FnScope n__law_same ["_law_found", "_law_due"] (defScope s__law_same) := ⟨rfl, rfl, rfl, by decide +kernel, rfl, by decide +kernel, by decide +kernel⟩
theorem ok__law_same {f : Addr} {dV : Value} {fd : FuncData} (F : FunV K "_law_same" "_law_same" s__law_same dV f fd) (z_repr : mg "repr" = none) : FnG P w K mg base 1 f fd ["_law_found", "_law_due"] sp__law_same :=
  okG F sc__law_same len__law_same mono__law_same (fun cdv A outer s S0 H0 E Q Ep xs => by
    intro X hr hgu hE h
    exact ⟨b__law_same, pzs_one (pz_ret (pv_cmp (opEq (hu64 hr)) sim_eq (pv_repr hgu (hu64 hr) z_repr (pvs_cons (pv_var 0) (pvs_nil))) (pv_repr hgu (hu64 hr) z_repr (pvs_cons (pv_var 1) (pvs_nil))) (nomark _))), ex__law_same h⟩)
abbrev s__law_corners : Stmt := topS 60
abbrev n__law_corners : List Str := ["_law_web_here", "_law_road", "_law_one", "_law_other", "_law_mids", "_law_ways"]
theorem sc__law_corners : FnScope n__law_corners ["_law_web_here", "_law_road"] (defScope s__law_corners) := ⟨rfl, rfl, rfl, by decide +kernel, rfl, by decide +kernel, by decide +kernel⟩
theorem ok__law_corners {f : Addr} {dV : Value} {fd : FuncData} (F : FunV K "_law_corners" "_law_corners" s__law_corners dV f fd) (z_list : mg "list" = none) : FnG P w K mg base 1 f fd ["_law_web_here", "_law_road"] sp__law_corners :=
  okG F sc__law_corners len__law_corners mono__law_corners (fun cdv A outer s S0 H0 E Q Ep xs => by
    intro X hr hgu hE h
    exact ⟨b__law_corners, pzs_cons (pz_tgt (t := .tp [.nm 2, .nm 3, .nm 4, .nm 5]) (pv_ix (pv_ix (pv_var 0) (pv_int)) (pv_var 1)) (pgt_tup rfl (pgt_cons (pgt_name 2 sc__law_corners.nd) (pgt_cons (pgt_name 3 sc__law_corners.nd) (pgt_cons (pgt_name 4 sc__law_corners.nd) (pgt_cons (pgt_name 5 sc__law_corners.nd) (pgt_nil))))))) (pzs_one (pz_ret (pv_add (pv_add (pv_lst (pvs_cons (pv_ix (pv_ix (pv_var 0) (pv_int)) (pv_var 2)) (pvs_nil))) (pv_listOf z_list (pvs_cons (pv_var 4) (pvs_nil)))) (pv_lst (pvs_cons (pv_ix (pv_ix (pv_var 0) (pv_int)) (pv_var 3)) (pvs_nil)))))), ex__law_corners h⟩)
abbrev s__law_piece : Stmt := topS 61
abbrev n__law_piece : List Str := ["_law_one", "_law_other", "_law_found", "_law_here", "_law_there"]
theorem sc__law_piece : FnScope n__law_piece ["_law_one", "_law_other"] (defScope s__law_piece) := ⟨rfl, rfl, rfl, by decide +kernel, rfl, by decide +kernel, by decide +kernel⟩
theorem ok__law_piece {f : Addr} {dV : Value} {fd : FuncData} (F : FunV K "_law_piece" "_law_piece" s__law_piece dV f fd) (z_zip : mg "zip" = none) (c__law_amount : Cal P w K mg base 1 "_law_amount" [] sp__law_amount) (c__law_minus : Cal P w K mg base 2 "_law_minus" [] sp__law_minus) (c__law_plus : Cal P w K mg base 2 "_law_plus" [] sp__law_plus) : FnG P w K mg base 3 f fd ["_law_one", "_law_other"] sp__law_piece :=
  okG F sc__law_piece len__law_piece mono__law_piece (fun cdv A outer s S0 H0 E Q Ep xs => by
    intro X hr hgu hE h
    exact ⟨b__law_piece, pzs_cons (pz_setLc 2 [("_law_here", 3), ("_law_there", 4)] rfl sc__law_piece.nd (pit_zip z_zip (pvs_cons (pv_var 0) (pvs_cons (pv_var 1) (pvs_nil)))) (blkOk_by (N := n__law_piece) (sc := defScope s__law_piece) (by decide +kernel)) (fun _ _ _ _ _ => pgt_tup rfl (pgt_cons (pgt_name 3 sc__law_piece.nd) (pgt_cons (pgt_name 4 sc__law_piece.nd) (pgt_nil)))) (fun _ _ _ _ _ => pbs_nil) (fun _ _ _ _ _ => pv_cal c__law_amount (hr.mono (by decide)) hgu (pvs_cons (pv_cal c__law_minus (hr.mono (by decide)) hgu (pvs_cons (pv_var 3) (pvs_cons (pv_var 4) (pvs_nil)))) (pvs_nil))) (sw_true rfl rfl rfl (by decide +kernel))) (pzs_one (pz_ret (pv_cal c__law_plus (hr.mono (by decide)) hgu (pvs_cons (pv_ix (pv_var 2) (pv_int)) (pvs_cons (pv_ix (pv_var 2) (pv_int)) (pvs_nil)))))), ex__law_piece h⟩)
abbrev s__law_long : Stmt := topS 62
abbrev n__law_long : List Str := ["_law_web_here", "_law_road", "_law_found", "_law_line", "_law_one", "_law_other"]
theorem sc__law_long : FnScope n__law_long ["_law_web_here", "_law_road"] (defScope s__law_long) := ⟨rfl, rfl, rfl, by decide +kernel, rfl, by decide +kernel, by decide +kernel⟩
theorem ok__law_long {f : Addr} {dV : Value} {fd : FuncData} (F : FunV K "_law_long" "_law_long" s__law_long dV f fd) (z_zip : mg "zip" = none) (c__law_corners : Cal P w K mg base 1 "_law_corners" [] sp__law_corners) (c__law_piece : Cal P w K mg base 3 "_law_piece" [] sp__law_piece) (c__law_plus : Cal P w K mg base 2 "_law_plus" [] sp__law_plus) : FnG P w K mg base 4 f fd ["_law_web_here", "_law_road"] sp__law_long :=
  okG F sc__law_long len__law_long mono__law_long (fun cdv A outer s S0 H0 E Q Ep xs => by
    intro X hr hgu hE h
    have hps : PassesOwn (model X.prog X.w) X.A X.env X.xe := passes_of rfl
    exact ⟨b__law_long, pzs_cons (pz_par 2 3 rfl sc__law_long.nd (pvs_cons (pv_tup (pvs_cons (pv_int) (pvs_cons (pv_int) (pvs_nil)))) (pvs_cons (pv_cal c__law_corners (hr.mono (by decide)) hgu (pvs_cons (pv_var 0) (pvs_cons (pv_var 1) (pvs_nil)))) (pvs_nil)))) (pzs_cons (pz_beg [4, 5] (pz_for hps rfl (pit_zip z_zip (pvs_cons (pv_var 3) (pvs_cons (pv_slice (pv_var 3) (pvo_some (pv_int)) (pvo_none)) (pvs_nil)))) (pgt_tup rfl (pgt_cons (pgt_name 4 sc__law_long.nd) (pgt_cons (pgt_name 5 sc__law_long.nd) (pgt_nil)))) (pzs_end [4, 5] (pzs_one (pz_set 2 sc__law_long.nd (pv_cal c__law_plus (hr.mono (by decide)) hgu (pvs_cons (pv_var 2) (pvs_cons (pv_cal c__law_piece (hr.mono (by decide)) hgu (pvs_cons (pv_var 4) (pvs_cons (pv_var 5) (pvs_nil)))) (pvs_nil))))))))) (pzs_one (pz_ret (pv_var 2)))), ex__law_long h⟩)
abbrev s__law_between : Stmt := topS 63
abbrev n__law_between : List Str := ["_law_one", "_law_other", "_law_share", "_law_found", "_law_here", "_law_there"]
theorem sc__law_between : FnScope n__law_between ["_law_one", "_law_other", "_law_share"] (defScope s__law_between) := ⟨rfl, rfl, rfl, by decide +kernel, rfl, by decide +kernel, by decide +kernel⟩
theorem ok__law_between {f : Addr} {dV : Value} {fd : FuncData} (F : FunV K "_law_between" "_law_between" s__law_between dV f fd) (z_tuple : mg "tuple" = none) (z_zip : mg "zip" = none) (c__law_minus : Cal P w K mg base 2 "_law_minus" [] sp__law_minus) (c__law_plus : Cal P w K mg base 2 "_law_plus" [] sp__law_plus) (c__law_times : Cal P w K mg base 2 "_law_times" [] sp__law_times) : FnG P w K mg base 3 f fd ["_law_one", "_law_other", "_law_share"] sp__law_between :=
  okG F sc__law_between len__law_between mono__law_between (fun cdv A outer s S0 H0 E Q Ep xs => by
    intro X hr hgu hE h
    have hps : PassesOwn (model X.prog X.w) X.A X.env X.xe := passes_of rfl
    exact ⟨b__law_between, pzs_cons (pz_set 3 sc__law_between.nd (pv_lstT (pvs_nil))) (pzs_cons (pz_beg [4, 5] (pz_for hps rfl (pit_zip z_zip (pvs_cons (pv_var 0) (pvs_cons (pv_var 1) (pvs_nil)))) (pgt_tup rfl (pgt_cons (pgt_name 4 sc__law_between.nd) (pgt_cons (pgt_name 5 sc__law_between.nd) (pgt_nil)))) (pzs_end [4, 5] (pzs_one (pz_expr (pv_append (pv_var 3) (pvs_cons (pv_cal c__law_plus (hr.mono (by decide)) hgu (pvs_cons (pv_cal c__law_times (hr.mono (by decide)) hgu (pvs_cons (pv_var 4) (pvs_cons (pv_cal c__law_minus (hr.mono (by decide)) hgu (pvs_cons (pv_tup (pvs_cons (pv_int) (pvs_cons (pv_int) (pvs_nil)))) (pvs_cons (pv_var 2) (pvs_nil)))) (pvs_nil)))) (pvs_cons (pv_cal c__law_times (hr.mono (by decide)) hgu (pvs_cons (pv_var 5) (pvs_cons (pv_var 2) (pvs_nil)))) (pvs_nil)))) (pvs_nil)))))))) (pzs_one (pz_ret (pv_tupleOf z_tuple (pvs_cons (pv_var 3) (pvs_nil)))))), ex__law_between h⟩)
abbrev s__law_at : Stmt := topS 64
abbrev n__law_at : List Str := ["_law_web_here", "_law_road", "_law_far_here", "_law_line", "_law_one", "_law_other", "_law_long_here"]
theorem sc__law_at : FnScope n__law_at ["_law_web_here", "_law_road", "_law_far_here"] (defScope s__law_at) := ⟨rfl, rfl, rfl, by decide +kernel, rfl, by decide +kernel, by decide +kernel⟩
theorem ok__law_at {f : Addr} {dV : Value} {fd : FuncData} (F : FunV K "_law_at" "_law_at" s__law_at dV f fd) (z_zip : mg "zip" = none) (c__law_between : Cal P w K mg base 3 "_law_between" [] sp__law_between) (c__law_corners : Cal P w K mg base 1 "_law_corners" [] sp__law_corners) (c__law_less : Cal P w K mg base 1 "_law_less" [] sp__law_less) (c__law_minus : Cal P w K mg base 2 "_law_minus" [] sp__law_minus) (c__law_over : Cal P w K mg base 2 "_law_over" [] sp__law_over) (c__law_piece : Cal P w K mg base 3 "_law_piece" [] sp__law_piece) : FnG P w K mg base 4 f fd ["_law_web_here", "_law_road", "_law_far_here"] sp__law_at :=
  okG F sc__law_at len__law_at mono__law_at (fun cdv A outer s S0 H0 E Q Ep xs => by
    intro X hr hgu hE h
    have hps : PassesOwn (model X.prog X.w) X.A X.env X.xe := passes_of rfl
    exact ⟨b__law_at, pzs_cons (pz_set 3 sc__law_at.nd (pv_cal c__law_corners (hr.mono (by decide)) hgu (pvs_cons (pv_var 0) (pvs_cons (pv_var 1) (pvs_nil))))) (pzs_cons (pz_beg [4, 5, 6] (pz_for hps rfl (pit_zip z_zip (pvs_cons (pv_var 3) (pvs_cons (pv_slice (pv_var 3) (pvo_some (pv_int)) (pvo_none)) (pvs_nil)))) (pgt_tup rfl (pgt_cons (pgt_name 4 sc__law_at.nd) (pgt_cons (pgt_name 5 sc__law_at.nd) (pgt_nil)))) (pzs_end [4, 5, 6] (pzs_cons (pz_set 6 sc__law_at.nd (pv_cal c__law_piece (hr.mono (by decide)) hgu (pvs_cons (pv_var 4) (pvs_cons (pv_var 5) (pvs_nil))))) (pzs_cons (pz_if (pb_not (pb_val (pv_cal c__law_less (hr.mono (by decide)) hgu (pvs_cons (pv_var 6) (pvs_cons (pv_var 2) (pvs_nil)))))) (pzs_one (pz_ret (pv_cal c__law_between (hr.mono (by decide)) hgu (pvs_cons (pv_var 4) (pvs_cons (pv_var 5) (pvs_cons (pv_cal c__law_over (hr.mono (by decide)) hgu (pvs_cons (pv_var 2) (pvs_cons (pv_var 6) (pvs_nil)))) (pvs_nil))))))) (pzs_nil)) (pzs_one (pz_set 2 sc__law_at.nd (pv_cal c__law_minus (hr.mono (by decide)) hgu (pvs_cons (pv_var 2) (pvs_cons (pv_var 6) (pvs_nil))))))))))) (pzs_one (pz_ret (pv_non)))), ex__law_at h⟩)
abbrev s__law_far : Stmt := topS 65
abbrev n__law_far : List Str := ["_law_state_here", "_law_web_here", "_law_road", "_law_long_here", "_law_line", "_law_way", "_law_bottom"]
theorem sc__law_far : FnScope n__law_far ["_law_state_here", "_law_web_here", "_law_road"] (defScope s__law_far) := ⟨rfl, rfl, rfl, by decide +kernel, rfl, by decide +kernel, by decide +kernel⟩
theorem ok__law_far {f : Addr} {dV : Value} {fd : FuncData} (F : FunV K "_law_far" "_law_far" s__law_far dV f fd) (c__law_choice : Cal P w K mg base 1 "_law_choice" [] sp__law_choice) (c__law_corners : Cal P w K mg base 1 "_law_corners" [] sp__law_corners) (c__law_long : Cal P w K mg base 4 "_law_long" [] sp__law_long) (c__law_low : Cal P w K mg base 1 "_law_low" [] sp__law_low) (c__law_piece : Cal P w K mg base 3 "_law_piece" [] sp__law_piece) (c__law_times : Cal P w K mg base 2 "_law_times" [] sp__law_times) : FnG P w K mg base 5 f fd ["_law_state_here", "_law_web_here", "_law_road"] sp__law_far :=
  okG F sc__law_far len__law_far mono__law_far (fun cdv A outer s S0 H0 E Q Ep xs => by
    intro X hr hgu hE h
    exact ⟨b__law_far, pzs_cons (pz_par 3 4 rfl sc__law_far.nd (pvs_cons (pv_cal c__law_long (hr.mono (by decide)) hgu (pvs_cons (pv_var 1) (pvs_cons (pv_var 2) (pvs_nil)))) (pvs_cons (pv_cal c__law_corners (hr.mono (by decide)) hgu (pvs_cons (pv_var 1) (pvs_cons (pv_var 2) (pvs_nil)))) (pvs_nil)))) (pzs_cons (pz_set 5 sc__law_far.nd (pv_cal c__law_choice (hr.mono (by decide)) hgu (pvs_cons (pv_var 0) (pvs_cons (pv_int) (pvs_nil))))) (pzs_cons (pz_if (pb_cmp (opLt (hu64 hr)) sim_cmp (pv_var 5) (pv_int) (nomark _)) (pzs_one (pz_ret (pv_ix (pv_lst (pvs_cons (pv_tup (pvs_cons (pv_int) (pvs_cons (pv_int) (pvs_nil)))) (pvs_cons (pv_var 3) (pvs_nil)))) (pv_var 5)))) (pzs_nil)) (pzs_cons (pz_if (pb_cmp (opEq (hu64 hr)) sim_eq (pv_var 5) (pv_int) (nomark _)) (pzs_one (pz_ret (pv_cal c__law_piece (hr.mono (by decide)) hgu (pvs_cons (pv_ix (pv_var 4) (pv_int)) (pvs_cons (pv_ix (pv_var 4) (pv_int)) (pvs_nil)))))) (pzs_nil)) (pzs_cons (pz_set 6 sc__law_far.nd (pv_add (pv_int) (pv_cal c__law_choice (hr.mono (by decide)) hgu (pvs_cons (pv_var 0) (pvs_cons (pv_ix (pv_lst (pvs_cons (pv_int) (pvs_cons (pv_int) (pvs_nil)))) (pv_cal c__law_choice (hr.mono (by decide)) hgu (pvs_cons (pv_var 0) (pvs_cons (pv_int) (pvs_nil))))) (pvs_nil)))))) (pzs_one (pz_ret (pv_cal c__law_times (hr.mono (by decide)) hgu (pvs_cons (pv_var 3) (pvs_cons (pv_cal c__law_low (hr.mono (by decide)) hgu (pvs_cons (pv_cal c__law_choice (hr.mono (by decide)) hgu (pvs_cons (pv_var 0) (pvs_cons (pv_add (pv_var 6) (pv_int)) (pvs_nil)))) (pvs_cons (pv_var 6) (pvs_nil)))) (pvs_nil)))))))))), ex__law_far h⟩)
abbrev s__law_spot : Stmt := topS 66
abbrev n__law_spot : List Str := ["_law_state_here", "_law_web_here", "_law_road"]
theorem sc__law_spot : FnScope n__law_spot ["_law_state_here", "_law_web_here"] (defScope s__law_spot) := ⟨rfl, rfl, rfl, by decide +kernel, rfl, by decide +kernel, by decide +kernel⟩
theorem ok__law_spot {f : Addr} {dV : Value} {fd : FuncData} (F : FunV K "_law_spot" "_law_spot" s__law_spot dV f fd) (z_len : mg "len" = none) (c__law_choice : Cal P w K mg base 1 "_law_choice" [] sp__law_choice) (c__law_far : Cal P w K mg base 5 "_law_far" [] sp__law_far) : FnG P w K mg base 6 f fd ["_law_state_here", "_law_web_here"] sp__law_spot :=
  okG F sc__law_spot len__law_spot mono__law_spot (fun cdv A outer s S0 H0 E Q Ep xs => by
    intro X hr hgu hE h
    exact ⟨b__law_spot, pzs_cons (pz_set 2 sc__law_spot.nd (pv_cal c__law_choice (hr.mono (by decide)) hgu (pvs_cons (pv_var 0) (pvs_cons (pv_len z_len (pvs_cons (pv_ix (pv_var 1) (pv_int)) (pvs_nil))) (pvs_nil))))) (pzs_one (pz_ret (pv_tup (pvs_cons (pv_var 2) (pvs_cons (pv_cal c__law_far (hr.mono (by decide)) hgu (pvs_cons (pv_var 0) (pvs_cons (pv_var 1) (pvs_cons (pv_var 2) (pvs_nil))))) (pvs_nil)))))), ex__law_spot h⟩)
abbrev s__law_roads : Stmt := topS 67
abbrev n__law_roads : List Str := ["_law_state_here", "_law_web_here", "_law_crossings"]
theorem sc__law_roads : FnScope n__law_roads ["_law_state_here"] (defScope s__law_roads) := ⟨rfl, rfl, rfl, by decide +kernel, rfl, by decide +kernel, by decide +kernel⟩
theorem ok__law_roads {f : Addr} {dV : Value} {fd : FuncData} (F : FunV K "_law_roads" "_law_roads" s__law_roads dV f fd) (c__law_choice : Cal P w K mg base 1 "_law_choice" [] sp__law_choice) (c__law_web : Cal P w K mg base 4 "_law_web" [] sp__law_web) : FnG P w K mg base 5 f fd ["_law_state_here"] sp__law_roads :=
  okG F sc__law_roads len__law_roads mono__law_roads (fun cdv A outer s S0 H0 E Q Ep xs => by
    intro X hr hgu hE h
    exact ⟨b__law_roads, pzs_cons (pz_set 1 sc__law_roads.nd (pv_cal c__law_web (hr.mono (by decide)) hgu (pvs_cons (pv_var 0) (pvs_nil)))) (pzs_cons (pz_if (pb_cmp (opNe (hu64 hr)) sim_ne (pv_ix (pv_var 1) (pv_int)) (pv_tup (pvs_nil)) (nomark _)) (pzs_one (pz_ret (pv_var 1))) (pzs_nil)) (pzs_cons (pz_set 2 sc__law_roads.nd (pv_tup (pvs_cons (pv_tup (pvs_cons (pv_tup (pvs_cons (pv_int) (pvs_cons (pv_int) (pvs_nil)))) (pvs_cons (pv_tup (pvs_cons (pv_int) (pvs_cons (pv_int) (pvs_nil)))) (pvs_nil)))) (pvs_cons (pv_tup (pvs_cons (pv_tup (pvs_cons (pv_int) (pvs_cons (pv_int) (pvs_nil)))) (pvs_cons (pv_tup (pvs_cons (pv_int) (pvs_cons (pv_int) (pvs_nil)))) (pvs_nil)))) (pvs_cons (pv_tup (pvs_cons (pv_tup (pvs_cons (pv_int) (pvs_cons (pv_int) (pvs_nil)))) (pvs_cons (pv_tup (pvs_cons (pv_int) (pvs_cons (pv_int) (pvs_nil)))) (pvs_nil)))) (pvs_nil)))))) (pzs_one (pz_ret (pv_tup (pvs_cons (pv_var 2) (pvs_cons (pv_tup (pvs_cons (pv_tup (pvs_cons (pv_int) (pvs_cons (pv_int) (pvs_cons (pv_tup (pvs_nil)) (pvs_cons (pv_int) (pvs_nil)))))) (pvs_cons (pv_tup (pvs_cons (pv_int) (pvs_cons (pv_int) (pvs_cons (pv_tup (pvs_cons (pv_tup (pvs_cons (pv_tup (pvs_cons (pv_int) (pvs_cons (pv_int) (pvs_nil)))) (pvs_cons (pv_tup (pvs_cons (pv_int) (pvs_cons (pv_int) (pvs_nil)))) (pvs_nil)))) (pvs_nil))) (pvs_cons (pv_add (pv_int) (pv_cal c__law_choice (hr.mono (by decide)) hgu (pvs_cons (pv_var 0) (pvs_cons (pv_int) (pvs_nil))))) (pvs_nil)))))) (pvs_nil)))) (pvs_nil)))))))), ex__law_roads h⟩)
abbrev s__law_ahead : Stmt := topS 68
abbrev n__law_ahead : List Str := ["_law_one", "_law_other", "_law_here", "_law_there"]
theorem sc__law_ahead : FnScope n__law_ahead ["_law_one", "_law_other"] (defScope s__law_ahead) := ⟨rfl, rfl, rfl, by decide +kernel, rfl, by decide +kernel, by decide +kernel⟩
theorem ok__law_ahead {f : Addr} {dV : Value} {fd : FuncData} (F : FunV K "_law_ahead" "_law_ahead" s__law_ahead dV f fd) (z_len : mg "len" = none) (z_zip : mg "zip" = none) (c__law_less : Cal P w K mg base 1 "_law_less" [] sp__law_less) : FnG P w K mg base 2 f fd ["_law_one", "_law_other"] sp__law_ahead :=
  okG F sc__law_ahead len__law_ahead mono__law_ahead (fun cdv A outer s S0 H0 E Q Ep xs => by
    intro X hr hgu hE h
    have hps : PassesOwn (model X.prog X.w) X.A X.env X.xe := passes_of rfl
    exact ⟨b__law_ahead, pzs_cons (pz_beg [2, 3] (pz_for hps rfl (pit_zip z_zip (pvs_cons (pv_var 0) (pvs_cons (pv_var 1) (pvs_nil)))) (pgt_tup rfl (pgt_cons (pgt_name 2 sc__law_ahead.nd) (pgt_cons (pgt_name 3 sc__law_ahead.nd) (pgt_nil)))) (pzs_end [2, 3] (pzs_one (pz_if (pb_cmp (opNe (hu64 hr)) sim_ne (pv_var 2) (pv_var 3) (nomark _)) (pzs_one (pz_ret (pv_cal c__law_less (hr.mono (by decide)) hgu (pvs_cons (pv_var 2) (pvs_cons (pv_var 3) (pvs_nil)))))) (pzs_nil)))))) (pzs_one (pz_ret (pv_cmp (opLt (hu64 hr)) sim_cmp (pv_len z_len (pvs_cons (pv_var 0) (pvs_nil))) (pv_len z_len (pvs_cons (pv_var 1) (pvs_nil))) (nomark _)))), ex__law_ahead h⟩)
abbrev s__law_squared : Stmt := topS 69
abbrev n__law_squared : List Str := ["_law_one", "_law_other", "_law_found", "_law_here", "_law_there"]
theorem sc__law_squared : FnScope n__law_squared ["_law_one", "_law_other"] (defScope s__law_squared) := ⟨rfl, rfl, rfl, by decide +kernel, rfl, by decide +kernel, by decide +kernel⟩
theorem ok__law_squared {f : Addr} {dV : Value} {fd : FuncData} (F : FunV K "_law_squared" "_law_squared" s__law_squared dV f fd) (z_zip : mg "zip" = none) (c__law_minus : Cal P w K mg base 2 "_law_minus" [] sp__law_minus) (c__law_plus : Cal P w K mg base 2 "_law_plus" [] sp__law_plus) (c__law_times : Cal P w K mg base 2 "_law_times" [] sp__law_times) : FnG P w K mg base 3 f fd ["_law_one", "_law_other"] sp__law_squared :=
  okG F sc__law_squared len__law_squared mono__law_squared (fun cdv A outer s S0 H0 E Q Ep xs => by
    intro X hr hgu hE h
    have hps : PassesOwn (model X.prog X.w) X.A X.env X.xe := passes_of rfl
    exact ⟨b__law_squared, pzs_cons (pz_set 2 sc__law_squared.nd (pv_tup (pvs_cons (pv_int) (pvs_cons (pv_int) (pvs_nil))))) (pzs_cons (pz_beg [3, 4] (pz_for hps rfl (pit_zip z_zip (pvs_cons (pv_var 0) (pvs_cons (pv_var 1) (pvs_nil)))) (pgt_tup rfl (pgt_cons (pgt_name 3 sc__law_squared.nd) (pgt_cons (pgt_name 4 sc__law_squared.nd) (pgt_nil)))) (pzs_end [3, 4] (pzs_one (pz_set 2 sc__law_squared.nd (pv_cal c__law_plus (hr.mono (by decide)) hgu (pvs_cons (pv_var 2) (pvs_cons (pv_cal c__law_times (hr.mono (by decide)) hgu (pvs_cons (pv_cal c__law_minus (hr.mono (by decide)) hgu (pvs_cons (pv_var 3) (pvs_cons (pv_var 4) (pvs_nil)))) (pvs_cons (pv_cal c__law_minus (hr.mono (by decide)) hgu (pvs_cons (pv_var 3) (pvs_cons (pv_var 4) (pvs_nil)))) (pvs_nil)))) (pvs_nil))))))))) (pzs_one (pz_ret (pv_var 2)))), ex__law_squared h⟩)
abbrev s__law_part : Stmt := topS 70
abbrev n__law_part : List Str := ["_law_one", "_law_other", "_law_point", "_law_long_here", "_law_here", "_law_share"]
theorem sc__law_part : FnScope n__law_part ["_law_one", "_law_other", "_law_point"] (defScope s__law_part) := ⟨rfl, rfl, rfl, by decide +kernel, rfl, by decide +kernel, by decide +kernel⟩
theorem ok__law_part {f : Addr} {dV : Value} {fd : FuncData} (F : FunV K "_law_part" "_law_part" s__law_part dV f fd) (c__law_less : Cal P w K mg base 1 "_law_less" [] sp__law_less) (c__law_minus : Cal P w K mg base 2 "_law_minus" [] sp__law_minus) (c__law_over : Cal P w K mg base 2 "_law_over" [] sp__law_over) (c__law_plus : Cal P w K mg base 2 "_law_plus" [] sp__law_plus) (c__law_squared : Cal P w K mg base 3 "_law_squared" [] sp__law_squared) (c__law_times : Cal P w K mg base 2 "_law_times" [] sp__law_times) : FnG P w K mg base 4 f fd ["_law_one", "_law_other", "_law_point"] sp__law_part :=
  okG F sc__law_part len__law_part mono__law_part (fun cdv A outer s S0 H0 E Q Ep xs => by
    intro X hr hgu hE h
    exact ⟨b__law_part, pzs_cons (pz_par 3 4 rfl sc__law_part.nd (pvs_cons (pv_cal c__law_squared (hr.mono (by decide)) hgu (pvs_cons (pv_var 0) (pvs_cons (pv_var 1) (pvs_nil)))) (pvs_cons (pv_cal c__law_squared (hr.mono (by decide)) hgu (pvs_cons (pv_var 0) (pvs_cons (pv_var 2) (pvs_nil)))) (pvs_nil)))) (pzs_cons (pz_set 5 sc__law_part.nd (pv_cal c__law_over (hr.mono (by decide)) hgu (pvs_cons (pv_cal c__law_plus (hr.mono (by decide)) hgu (pvs_cons (pv_var 3) (pvs_cons (pv_cal c__law_minus (hr.mono (by decide)) hgu (pvs_cons (pv_var 4) (pvs_cons (pv_cal c__law_squared (hr.mono (by decide)) hgu (pvs_cons (pv_var 1) (pvs_cons (pv_var 2) (pvs_nil)))) (pvs_nil)))) (pvs_nil)))) (pvs_cons (pv_cal c__law_times (hr.mono (by decide)) hgu (pvs_cons (pv_tup (pvs_cons (pv_int) (pvs_cons (pv_int) (pvs_nil)))) (pvs_cons (pv_var 3) (pvs_nil)))) (pvs_nil))))) (pzs_cons (pz_if (pb_val (pv_cal c__law_less (hr.mono (by decide)) hgu (pvs_cons (pv_var 5) (pvs_cons (pv_tup (pvs_cons (pv_int) (pvs_cons (pv_int) (pvs_nil)))) (pvs_nil))))) (pzs_one (pz_ret (pv_tup (pvs_cons (pv_int) (pvs_cons (pv_int) (pvs_nil)))))) (pzs_nil)) (pzs_one (pz_ret (pv_if (pb_val (pv_cal c__law_less (hr.mono (by decide)) hgu (pvs_cons (pv_tup (pvs_cons (pv_int) (pvs_cons (pv_int) (pvs_nil)))) (pvs_cons (pv_var 5) (pvs_nil))))) (pv_tup (pvs_cons (pv_int) (pvs_cons (pv_int) (pvs_nil)))) (pv_var 5)))))), ex__law_part h⟩)
abbrev s__law_near : Stmt := topS 71
abbrev n__law_near : List Str := ["_law_web_here", "_law_point", "_law_found", "_law_road", "_law_line", "_law_ahead_here", "_law_one", "_law_other", "_law_share", "_law_long_here", "_law_off", "_law_row"]
theorem sc__law_near : FnScope n__law_near ["_law_web_here", "_law_point"] (defScope s__law_near) := ⟨rfl, rfl, rfl, by decide +kernel, rfl, by decide +kernel, by decide +kernel⟩
theorem ok__law_near {f : Addr} {dV : Value} {fd : FuncData} (F : FunV K "_law_near" "_law_near" s__law_near dV f fd) (z_len : mg "len" = none) (z_range : mg "range" = none) (z_zip : mg "zip" = none) (c__law_ahead : Cal P w K mg base 2 "_law_ahead" [] sp__law_ahead) (c__law_between : Cal P w K mg base 3 "_law_between" [] sp__law_between) (c__law_corners : Cal P w K mg base 1 "_law_corners" [] sp__law_corners) (c__law_part : Cal P w K mg base 4 "_law_part" [] sp__law_part) (c__law_piece : Cal P w K mg base 3 "_law_piece" [] sp__law_piece) (c__law_plus : Cal P w K mg base 2 "_law_plus" [] sp__law_plus) (c__law_squared : Cal P w K mg base 3 "_law_squared" [] sp__law_squared) (c__law_times : Cal P w K mg base 2 "_law_times" [] sp__law_times) : FnG P w K mg base 5 f fd ["_law_web_here", "_law_point"] sp__law_near :=
  okG F sc__law_near len__law_near mono__law_near (fun cdv A outer s S0 H0 E Q Ep xs => by
    intro X hr hgu hE h
    have hps : PassesOwn (model X.prog X.w) X.A X.env X.xe := passes_of rfl
    exact ⟨b__law_near, pzs_cons (pz_set 2 sc__law_near.nd (pv_non)) (pzs_cons (pz_beg [3, 4, 5, 6, 7, 8, 9, 10, 11] (pz_for hps rfl (pit_range1 z_range (pvs_cons (pv_len z_len (pvs_cons (pv_ix (pv_var 0) (pv_int)) (pvs_nil))) (pvs_nil))) (pgt_name 3 sc__law_near.nd) (pzs_end [3, 4, 5, 6, 7, 8, 9, 10, 11] (pzs_cons (pz_par 4 5 rfl sc__law_near.nd (pvs_cons (pv_cal c__law_corners (hr.mono (by decide)) hgu (pvs_cons (pv_var 0) (pvs_cons (pv_var 3) (pvs_nil)))) (pvs_cons (pv_tup (pvs_cons (pv_int) (pvs_cons (pv_int) (pvs_nil)))) (pvs_nil)))) (pzs_one (pz_beg [6, 7, 8, 9, 10, 11] (pz_for hps rfl (pit_zip z_zip (pvs_cons (pv_var 4) (pvs_cons (pv_slice (pv_var 4) (pvo_some (pv_int)) (pvo_none)) (pvs_nil)))) (pgt_tup rfl (pgt_cons (pgt_name 6 sc__law_near.nd) (pgt_cons (pgt_name 7 sc__law_near.nd) (pgt_nil)))) (pzs_end [6, 7, 8, 9, 10, 11] (pzs_cons (pz_par 8 9 rfl sc__law_near.nd (pvs_cons (pv_cal c__law_part (hr.mono (by decide)) hgu (pvs_cons (pv_var 6) (pvs_cons (pv_var 7) (pvs_cons (pv_var 1) (pvs_nil))))) (pvs_cons (pv_cal c__law_piece (hr.mono (by decide)) hgu (pvs_cons (pv_var 6) (pvs_cons (pv_var 7) (pvs_nil)))) (pvs_nil)))) (pzs_cons (pz_set 10 sc__law_near.nd (pv_cal c__law_squared (hr.mono (by decide)) hgu (pvs_cons (pv_cal c__law_between (hr.mono (by decide)) hgu (pvs_cons (pv_var 6) (pvs_cons (pv_var 7) (pvs_cons (pv_var 8) (pvs_nil))))) (pvs_cons (pv_var 1) (pvs_nil))))) (pzs_cons (pz_set 11 sc__law_near.nd (pv_lst (pvs_cons (pv_var 10) (pvs_cons (pv_tup (pvs_cons (pv_var 3) (pvs_cons (pv_int) (pvs_nil)))) (pvs_cons (pv_cal c__law_plus (hr.mono (by decide)) hgu (pvs_cons (pv_var 5) (pvs_cons (pv_cal c__law_times (hr.mono (by decide)) hgu (pvs_cons (pv_var 8) (pvs_cons (pv_var 9) (pvs_nil)))) (pvs_nil)))) (pvs_nil)))))) (pzs_cons (pz_if (PBw.pb (pbw_or (pb_cmp op_isN sim_is (pv_var 2) (pv_non) (nomark _)) (pbw_or1 (pb_val (pv_cal c__law_ahead (hr.mono (by decide)) hgu (pvs_cons (pv_var 11) (pvs_cons (pv_var 2) (pvs_nil)))))))) (pzs_one (pz_set 2 sc__law_near.nd (pv_var 11))) (pzs_nil)) (pzs_one (pz_set 5 sc__law_near.nd (pv_cal c__law_plus (hr.mono (by decide)) hgu (pvs_cons (pv_var 5) (pvs_cons (pv_var 9) (pvs_nil)))))))))))))))))) (pzs_one (pz_ret (pv_if (pb_cmp op_isN sim_is (pv_var 2) (pv_non) (nomark _)) (pv_non) (pv_tup (pvs_cons (pv_ix (pv_var 2) (pv_int)) (pvs_cons (pv_ix (pv_ix (pv_var 2) (pv_int)) (pv_int)) (pvs_cons (pv_ix (pv_var 2) (pv_int)) (pvs_nil))))))))), ex__law_near h⟩)
abbrev s__law_none_nearer : Stmt := topS 72
abbrev n__law_none_nearer : List Str := ["_law_web_here", "_law_point", "_law_off", "_law_road", "_law_part_here", "_law_far_here"]
theorem sc__law_none_nearer : FnScope n__law_none_nearer ["_law_web_here", "_law_point", "_law_off"] (defScope s__law_none_nearer) := ⟨rfl, rfl, rfl, by decide +kernel, rfl, by decide +kernel, by decide +kernel⟩
theorem ok__law_none_nearer {f : Addr} {dV : Value} {fd : FuncData} (F : FunV K "_law_none_nearer" "_law_none_nearer" s__law_none_nearer dV f fd) (z_len : mg "len" = none) (z_range : mg "range" = none) (c__law_at : Cal P w K mg base 4 "_law_at" [] sp__law_at) (c__law_less : Cal P w K mg base 1 "_law_less" [] sp__law_less) (c__law_long : Cal P w K mg base 4 "_law_long" [] sp__law_long) (c__law_low : Cal P w K mg base 1 "_law_low" [] sp__law_low) (c__law_squared : Cal P w K mg base 3 "_law_squared" [] sp__law_squared) (c__law_times : Cal P w K mg base 2 "_law_times" [] sp__law_times) : FnG P w K mg base 5 f fd ["_law_web_here", "_law_point", "_law_off"] sp__law_none_nearer :=
  okG F sc__law_none_nearer len__law_none_nearer mono__law_none_nearer (fun cdv A outer s S0 H0 E Q Ep xs => by
    intro X hr hgu hE h
    have hps : PassesOwn (model X.prog X.w) X.A X.env X.xe := passes_of rfl
    exact ⟨b__law_none_nearer, pzs_cons (pz_beg [3, 4, 5] (pz_for hps rfl (pit_range1 z_range (pvs_cons (pv_len z_len (pvs_cons (pv_ix (pv_var 0) (pv_int)) (pvs_nil))) (pvs_nil))) (pgt_name 3 sc__law_none_nearer.nd) (pzs_end [3, 4, 5] (pzs_one (pz_beg [4, 5] (pz_for hps rfl (pit_range1 z_range (pvs_cons (pv_int) (pvs_nil))) (pgt_name 4 sc__law_none_nearer.nd) (pzs_end [4, 5] (pzs_cons (pz_set 5 sc__law_none_nearer.nd (pv_cal c__law_times (hr.mono (by decide)) hgu (pvs_cons (pv_cal c__law_long (hr.mono (by decide)) hgu (pvs_cons (pv_var 0) (pvs_cons (pv_var 3) (pvs_nil)))) (pvs_cons (pv_cal c__law_low (hr.mono (by decide)) hgu (pvs_cons (pv_var 4) (pvs_cons (pv_int) (pvs_nil)))) (pvs_nil))))) (pzs_one (pz_if (pb_val (pv_cal c__law_less (hr.mono (by decide)) hgu (pvs_cons (pv_cal c__law_squared (hr.mono (by decide)) hgu (pvs_cons (pv_cal c__law_at (hr.mono (by decide)) hgu (pvs_cons (pv_var 0) (pvs_cons (pv_var 3) (pvs_cons (pv_var 5) (pvs_nil))))) (pvs_cons (pv_var 1) (pvs_nil)))) (pvs_cons (pv_var 2) (pvs_nil))))) (pzs_one (pz_ret (pv_bl))) (pzs_nil))))))))))) (pzs_one (pz_ret (pv_bl))), ex__law_none_nearer h⟩)
abbrev s__law_points : Stmt := topS 73
abbrev n__law_points : List Str := ["_law_state_here", "_law_web_here", "_law_spot_here"]
theorem sc__law_points : FnScope n__law_points ["_law_state_here", "_law_web_here"] (defScope s__law_points) := ⟨rfl, rfl, rfl, by decide +kernel, rfl, by decide +kernel, by decide +kernel⟩
theorem ok__law_points {f : Addr} {dV : Value} {fd : FuncData} (F : FunV K "_law_points" "_law_points" s__law_points dV f fd) (c__law_any_point : Cal P w K mg base 3 "_law_any_point" [] sp__law_any_point) (c__law_at : Cal P w K mg base 4 "_law_at" [] sp__law_at) (c__law_land_point : Cal P w K mg base 3 "_law_land_point" [] sp__law_land_point) (c__law_spot : Cal P w K mg base 6 "_law_spot" [] sp__law_spot) : FnG P w K mg base 7 f fd ["_law_state_here", "_law_web_here"] sp__law_points :=
  okG F sc__law_points len__law_points mono__law_points (fun cdv A outer s S0 H0 E Q Ep xs => by
    intro X hr hgu hE h
    exact ⟨b__law_points, pzs_cons (pz_set 2 sc__law_points.nd (pv_cal c__law_spot (hr.mono (by decide)) hgu (pvs_cons (pv_var 0) (pvs_cons (pv_var 1) (pvs_nil))))) (pzs_one (pz_ret (pv_lst (pvs_cons (pv_cal c__law_land_point (hr.mono (by decide)) hgu (pvs_cons (pv_var 0) (pvs_nil))) (pvs_cons (pv_cal c__law_any_point (hr.mono (by decide)) hgu (pvs_cons (pv_var 0) (pvs_nil))) (pvs_cons (pv_cal c__law_at (hr.mono (by decide)) hgu (pvs_cons (pv_var 1) (pvs_cons (pv_ix (pv_var 2) (pv_int)) (pvs_cons (pv_ix (pv_var 2) (pv_int)) (pvs_nil))))) (pvs_cons (pv_ix (pv_ix (pv_var 1) (pv_int)) (pv_int)) (pvs_nil)))))))), ex__law_points h⟩)
abbrev s_law : Stmt := topS 74
abbrev n_law : List Str := ["_law_script", "_law_nth", "_law_state_here", "_law_web_here", "_law_point", "_law_due"]
theorem sc_law : FnScope n_law ["_law_script"] (defScope s_law) := ⟨rfl, rfl, rfl, by decide +kernel, rfl, by decide +kernel, by decide +kernel⟩
theorem ok_law {f : Addr} {dV : Value} {fd : FuncData} (F : FunV K "law" "law" s_law dV f fd) (z_len : mg "len" = none) (z_max : mg "max" = none) (z_min : mg "min" = none) (z_range : mg "range" = none) (c__law_at : Cal P w K mg base 4 "_law_at" [] sp__law_at) (c__law_near : Cal P w K mg base 5 "_law_near" [] sp__law_near) (c__law_none_nearer : Cal P w K mg base 5 "_law_none_nearer" [] sp__law_none_nearer) (c__law_points : Cal P w K mg base 7 "_law_points" [] sp__law_points) (c__law_roads : Cal P w K mg base 5 "_law_roads" [] sp__law_roads) (c__law_same : Cal P w K mg base 1 "_law_same" [] sp__law_same) (c__law_squared : Cal P w K mg base 3 "_law_squared" [] sp__law_squared) (c__law_state : Cal P w K mg base 2 "_law_state" [] sp__law_state) (c_nearest_spot : Cal P w K mg base 8 "nearest_spot" [] sp_nearest_spot) : FnG P w K mg base 9 f fd ["_law_script"] sp_law :=
  okG F sc_law len_law mono_law (fun cdv A outer s S0 H0 E Q Ep xs => by
    intro X hr hgu hE h
    have hps : PassesOwn (model X.prog X.w) X.A X.env X.xe := passes_of rfl
    exact ⟨b_law, pzs_cons (pz_beg [1, 2, 3, 4, 5] (pz_for hps rfl (pit_range1 z_range (pvs_cons (pv_max rfl z_max (pvs_cons (pv_int) (pvs_cons (pv_min rfl z_min (pvs_cons (pv_len z_len (pvs_cons (pv_var 0) (pvs_nil))) (pvs_cons (pv_int) (pvs_nil)))) (pvs_nil)))) (pvs_nil))) (pgt_name 1 sc_law.nd) (pzs_end [1, 2, 3, 4, 5] (pzs_cons (pz_set 2 sc_law.nd (pv_cal c__law_state (hr.mono (by decide)) hgu (pvs_cons (pv_var 0) (pvs_cons (pv_var 1) (pvs_nil))))) (pzs_cons (pz_set 3 sc_law.nd (pv_cal c__law_roads (hr.mono (by decide)) hgu (pvs_cons (pv_var 2) (pvs_nil)))) (pzs_one (pz_beg [4, 5] (pz_for hps rfl (pit_val (pv_cal c__law_points (hr.mono (by decide)) hgu (pvs_cons (pv_var 2) (pvs_cons (pv_var 3) (pvs_nil))))) (pgt_name 4 sc_law.nd) (pzs_end [4, 5] (pzs_cons (pz_set 5 sc_law.nd (pv_cal c__law_near (hr.mono (by decide)) hgu (pvs_cons (pv_var 3) (pvs_cons (pv_var 4) (pvs_nil))))) (pzs_cons (pz_if (pb_not (pb_val (pv_cal c__law_same (hr.mono (by decide)) hgu (pvs_cons (pv_lst (pvs_cons (pv_cal c_nearest_spot (hr.mono (by decide)) hgu (pvs_cons (pv_var 3) (pvs_cons (pv_var 4) (pvs_nil)))) (pvs_cons (pv_cal c_nearest_spot (hr.mono (by decide)) hgu (pvs_cons (pv_var 3) (pvs_cons (pv_var 4) (pvs_nil)))) (pvs_nil)))) (pvs_cons (pv_lst (pvs_cons (pv_var 5) (pvs_cons (pv_var 5) (pvs_nil)))) (pvs_nil)))))) (pzs_one (pz_ret (pv_bl))) (pzs_nil)) (pzs_one (pz_if (PBw.pb (pbw_or (pb_cmp (opNe (hu64 hr)) sim_ne (pv_cal c__law_squared (hr.mono (by decide)) hgu (pvs_cons (pv_cal c__law_at (hr.mono (by decide)) hgu (pvs_cons (pv_var 3) (pvs_cons (pv_ix (pv_var 5) (pv_int)) (pvs_cons (pv_ix (pv_var 5) (pv_int)) (pvs_nil))))) (pvs_cons (pv_var 4) (pvs_nil)))) (pv_ix (pv_var 5) (pv_int)) (nomark _)) (pbw_or1 (pb_not (pb_val (pv_cal c__law_none_nearer (hr.mono (by decide)) hgu (pvs_cons (pv_var 3) (pvs_cons (pv_var 4) (pvs_cons (pv_ix (pv_var 5) (pv_int)) (pvs_nil)))))))))) (pzs_one (pz_ret (pv_bl))) (pzs_nil)))))))))))))) (pzs_one (pz_ret (pv_cmp op_isN sim_is (pv_cal c_nearest_spot (hr.mono (by decide)) hgu (pvs_cons (pv_tup (pvs_cons (pv_tup (pvs_cons (pv_tup (pvs_cons (pv_tup (pvs_cons (pv_int) (pvs_cons (pv_int) (pvs_nil)))) (pvs_cons (pv_tup (pvs_cons (pv_int) (pvs_cons (pv_int) (pvs_nil)))) (pvs_nil)))) (pvs_nil))) (pvs_cons (pv_tup (pvs_nil)) (pvs_nil)))) (pvs_cons (pv_tup (pvs_cons (pv_tup (pvs_cons (pv_int) (pvs_cons (pv_int) (pvs_nil)))) (pvs_cons (pv_tup (pvs_cons (pv_int) (pvs_cons (pv_int) (pvs_nil)))) (pvs_nil)))) (pvs_nil)))) (pv_non) (nomark _)))), ex_law h⟩)
end
set_option maxHeartbeats 4000000 in
theorem all_mk {P : Program} {w : World} {K : PySem.W.Frag} {h : Heap} {mg : Str → Option Value} {fa : Addr} (X : K.In h) (G : h.Ns mainGlobals mg) (hfa : mg "law" = some (.ref fa))
    {f0 : Addr} {od0 an0 : Option Addr} {sl0 : Array (Option Value)} {oc0 kV0 dc0 pm0 ct0 : Value} {cd0 : Value}
    {f1 : Addr} {od1 an1 : Option Addr} {sl1 : Array (Option Value)} {oc1 kV1 dc1 pm1 ct1 : Value} {cd1 : Value}
    {f2 : Addr} {od2 an2 : Option Addr} {sl2 : Array (Option Value)} {oc2 kV2 dc2 pm2 ct2 : Value} {cd2 : Value}
    {f3 : Addr} {od3 an3 : Option Addr} {sl3 : Array (Option Value)} {oc3 kV3 dc3 pm3 ct3 : Value} {cd3 : Value}
    {f4 : Addr} {od4 an4 : Option Addr} {sl4 : Array (Option Value)} {oc4 kV4 dc4 pm4 ct4 : Value} {cd4 : Value}
    {f5 : Addr} {od5 an5 : Option Addr} {sl5 : Array (Option Value)} {oc5 kV5 dc5 pm5 ct5 : Value} {cd5 : Value}
    {f6 : Addr} {od6 an6 : Option Addr} {sl6 : Array (Option Value)} {oc6 kV6 dc6 pm6 ct6 : Value} {cd6 : Value}
    {f7 : Addr} {od7 an7 : Option Addr} {sl7 : Array (Option Value)} {oc7 kV7 dc7 pm7 ct7 : Value} {cd7 : Value}
    {f8 : Addr} {od8 an8 : Option Addr} {sl8 : Array (Option Value)} {oc8 kV8 dc8 pm8 ct8 : Value} {cd8 : Value}
    {f9 : Addr} {od9 an9 : Option Addr} {sl9 : Array (Option Value)} {oc9 kV9 dc9 pm9 ct9 : Value} {cd9 : Value}
    {f10 : Addr} {od10 an10 : Option Addr} {sl10 : Array (Option Value)} {oc10 kV10 dc10 pm10 ct10 : Value} {cd10 : Value}
    {f11 : Addr} {od11 an11 : Option Addr} {sl11 : Array (Option Value)} {oc11 kV11 dc11 pm11 ct11 : Value} {cd11 : Value}
    {f12 : Addr} {od12 an12 : Option Addr} {sl12 : Array (Option Value)} {oc12 kV12 dc12 pm12 ct12 : Value} {cd12 : Value}
    {f13 : Addr} {od13 an13 : Option Addr} {sl13 : Array (Option Value)} {oc13 kV13 dc13 pm13 ct13 : Value} {cd13 : Value}
    {f14 : Addr} {od14 an14 : Option Addr} {sl14 : Array (Option Value)} {oc14 kV14 dc14 pm14 ct14 : Value} {cd14 : Value}
    {f15 : Addr} {od15 an15 : Option Addr} {sl15 : Array (Option Value)} {oc15 kV15 dc15 pm15 ct15 : Value} {cd15 : Value}
    {f16 : Addr} {od16 an16 : Option Addr} {sl16 : Array (Option Value)} {oc16 kV16 dc16 pm16 ct16 : Value} {cd16 : Value}
    {f17 : Addr} {od17 an17 : Option Addr} {sl17 : Array (Option Value)} {oc17 kV17 dc17 pm17 ct17 : Value} {cd17 : Value}
    {f18 : Addr} {od18 an18 : Option Addr} {sl18 : Array (Option Value)} {oc18 kV18 dc18 pm18 ct18 : Value} {cd18 : Value}
    {f19 : Addr} {od19 an19 : Option Addr} {sl19 : Array (Option Value)} {oc19 kV19 dc19 pm19 ct19 : Value} {cd19 : Value}
    {f20 : Addr} {od20 an20 : Option Addr} {sl20 : Array (Option Value)} {oc20 kV20 dc20 pm20 ct20 : Value} {cd20 : Value}
    {f21 : Addr} {od21 an21 : Option Addr} {sl21 : Array (Option Value)} {oc21 kV21 dc21 pm21 ct21 : Value} {cd21 : Value}
    {f22 : Addr} {od22 an22 : Option Addr} {sl22 : Array (Option Value)} {oc22 kV22 dc22 pm22 ct22 : Value} {cd22 : Value}
    {f23 : Addr} {od23 an23 : Option Addr} {sl23 : Array (Option Value)} {oc23 kV23 dc23 pm23 ct23 : Value} {cd23 : Value}
    {f24 : Addr} {od24 an24 : Option Addr} {sl24 : Array (Option Value)} {oc24 kV24 dc24 pm24 ct24 : Value} {cd24 : Value}
    {f25 : Addr} {od25 an25 : Option Addr} {sl25 : Array (Option Value)} {oc25 kV25 dc25 pm25 ct25 : Value} {cd25 : Value}
    {f26 : Addr} {od26 an26 : Option Addr} {sl26 : Array (Option Value)} {oc26 kV26 dc26 pm26 ct26 : Value} {cd26 : Value}
    {f27 : Addr} {od27 an27 : Option Addr} {sl27 : Array (Option Value)} {oc27 kV27 dc27 pm27 ct27 : Value} {cd27 : Value}
    {f28 : Addr} {od28 an28 : Option Addr} {sl28 : Array (Option Value)} {oc28 kV28 dc28 pm28 ct28 : Value} {cd28 : Value}
    {f29 : Addr} {od29 an29 : Option Addr} {sl29 : Array (Option Value)} {oc29 kV29 dc29 pm29 ct29 : Value} {cd29 : Value}
    {f30 : Addr} {od30 an30 : Option Addr} {sl30 : Array (Option Value)} {oc30 kV30 dc30 pm30 ct30 : Value} {cd30 : Value}
    {f31 : Addr} {od31 an31 : Option Addr} {sl31 : Array (Option Value)} {oc31 kV31 dc31 pm31 ct31 : Value} {cd31 : Value}
    {f32 : Addr} {od32 an32 : Option Addr} {sl32 : Array (Option Value)} {oc32 kV32 dc32 pm32 ct32 : Value} {cd32 : Value}
    {f33 : Addr} {od33 an33 : Option Addr} {sl33 : Array (Option Value)} {oc33 kV33 dc33 pm33 ct33 : Value} {cd33 : Value}
    {f34 : Addr} {od34 an34 : Option Addr} {sl34 : Array (Option Value)} {oc34 kV34 dc34 pm34 ct34 : Value} {cd34 : Value}
    {f35 : Addr} {od35 an35 : Option Addr} {sl35 : Array (Option Value)} {oc35 kV35 dc35 pm35 ct35 : Value} {cd35 : Value}
    {f36 : Addr} {od36 an36 : Option Addr} {sl36 : Array (Option Value)} {oc36 kV36 dc36 pm36 ct36 : Value} {cd36 : Value}
    {f37 : Addr} {od37 an37 : Option Addr} {sl37 : Array (Option Value)} {oc37 kV37 dc37 pm37 ct37 : Value} {cd37 : Value}
    {f38 : Addr} {od38 an38 : Option Addr} {sl38 : Array (Option Value)} {oc38 kV38 dc38 pm38 ct38 : Value} {cd38 : Value}
    {f39 : Addr} {od39 an39 : Option Addr} {sl39 : Array (Option Value)} {oc39 kV39 dc39 pm39 ct39 : Value} {cd39 : Value}
    {f40 : Addr} {od40 an40 : Option Addr} {sl40 : Array (Option Value)} {oc40 kV40 dc40 pm40 ct40 : Value} {cd40 : Value}
    {f41 : Addr} {od41 an41 : Option Addr} {sl41 : Array (Option Value)} {oc41 kV41 dc41 pm41 ct41 : Value} {cd41 : Value}
    {f42 : Addr} {od42 an42 : Option Addr} {sl42 : Array (Option Value)} {oc42 kV42 dc42 pm42 ct42 : Value} {cd42 : Value}
    {f43 : Addr} {od43 an43 : Option Addr} {sl43 : Array (Option Value)} {oc43 kV43 dc43 pm43 ct43 : Value} {cd43 : Value}
    {f44 : Addr} {od44 an44 : Option Addr} {sl44 : Array (Option Value)} {oc44 kV44 dc44 pm44 ct44 : Value} {cd44 : Value}
    {f45 : Addr} {od45 an45 : Option Addr} {sl45 : Array (Option Value)} {oc45 kV45 dc45 pm45 ct45 : Value} {cd45 : Value}
    {f46 : Addr} {od46 an46 : Option Addr} {sl46 : Array (Option Value)} {oc46 kV46 dc46 pm46 ct46 : Value} {cd46 : Value}
    {f47 : Addr} {od47 an47 : Option Addr} {sl47 : Array (Option Value)} {oc47 kV47 dc47 pm47 ct47 : Value} {cd47 : Value}
    {f48 : Addr} {od48 an48 : Option Addr} {sl48 : Array (Option Value)} {oc48 kV48 dc48 pm48 ct48 : Value} {cd48 : Value}
    {f49 : Addr} {od49 an49 : Option Addr} {sl49 : Array (Option Value)} {oc49 kV49 dc49 pm49 ct49 : Value} {cd49 : Value}
    {f50 : Addr} {od50 an50 : Option Addr} {sl50 : Array (Option Value)} {oc50 kV50 dc50 pm50 ct50 : Value} {cd50 : Value}
    {f51 : Addr} {od51 an51 : Option Addr} {sl51 : Array (Option Value)} {oc51 kV51 dc51 pm51 ct51 : Value} {cd51 : Value}
    {f52 : Addr} {od52 an52 : Option Addr} {sl52 : Array (Option Value)} {oc52 kV52 dc52 pm52 ct52 : Value} {cd52 : Value}
    {f53 : Addr} {od53 an53 : Option Addr} {sl53 : Array (Option Value)} {oc53 kV53 dc53 pm53 ct53 : Value} {cd53 : Value}
    {f54 : Addr} {od54 an54 : Option Addr} {sl54 : Array (Option Value)} {oc54 kV54 dc54 pm54 ct54 : Value} {cd54 : Value}
    {f55 : Addr} {od55 an55 : Option Addr} {sl55 : Array (Option Value)} {oc55 kV55 dc55 pm55 ct55 : Value} {cd55 : Value}
    {f56 : Addr} {od56 an56 : Option Addr} {sl56 : Array (Option Value)} {oc56 kV56 dc56 pm56 ct56 : Value} {cd56 : Value}
    {f57 : Addr} {od57 an57 : Option Addr} {sl57 : Array (Option Value)} {oc57 kV57 dc57 pm57 ct57 : Value} {cd57 : Value}
    {f58 : Addr} {od58 an58 : Option Addr} {sl58 : Array (Option Value)} {oc58 kV58 dc58 pm58 ct58 : Value} {cd58 : Value}
    {f59 : Addr} {od59 an59 : Option Addr} {sl59 : Array (Option Value)} {oc59 kV59 dc59 pm59 ct59 : Value} {cd59 : Value}
    {f60 : Addr} {od60 an60 : Option Addr} {sl60 : Array (Option Value)} {oc60 kV60 dc60 pm60 ct60 : Value} {cd60 : Value}
    {f61 : Addr} {od61 an61 : Option Addr} {sl61 : Array (Option Value)} {oc61 kV61 dc61 pm61 ct61 : Value} {cd61 : Value}
    {ti_LAND : Tok}
    {ti_MOST_CROSSINGS : Tok}
    {ti_MOST_MIDDLE : Tok}
    {ti_MOST_ROADS : Tok}
    {ti_NOUGHT_0 : Tok}
    {ti_NOUGHT_1 : Tok}
    {ta_NOUGHT : Addr} {td_NOUGHT : Option Addr} {tn_NOUGHT : Nat} {ts_NOUGHT : Array (Option Value)}
    {ti_ONE_0 : Tok}
    {ti_ONE_1 : Tok}
    {ta_ONE : Addr} {td_ONE : Option Addr} {tn_ONE : Nat} {ts_ONE : Array (Option Value)}
    (a0 : PySem.W.nsIn K mainGlobals "is_whole" = some (some (.ref f0)))
    (l0 : K.lookup f0 = some ⟨oc0, od0, .func (PySem.W.fnOf "is_whole" "is_whole" (defArgs s_is_whole) (defBody s_is_whole) (defScope s_is_whole) .none kV0 dc0 pm0 an0 cd0 ct0), sl0⟩)
    (c0 : PySem.W.codeIn K cd0 "is_whole" = true)
    (k0 : PySem.W.keepIn K (.ref f0) = true)
    (a1 : PySem.W.nsIn K mainGlobals "is_within" = some (some (.ref f1)))
    (l1 : K.lookup f1 = some ⟨oc1, od1, .func (PySem.W.fnOf "is_within" "is_within" (defArgs s_is_within) (defBody s_is_within) (defScope s_is_within) .none kV1 dc1 pm1 an1 cd1 ct1), sl1⟩)
    (c1 : PySem.W.codeIn K cd1 "is_within" = true)
    (k1 : PySem.W.keepIn K (.ref f1) = true)
    (a2 : PySem.W.nsIn K mainGlobals "is_row" = some (some (.ref f2)))
    (l2 : K.lookup f2 = some ⟨oc2, od2, .func (PySem.W.fnOf "is_row" "is_row" (defArgs s_is_row) (defBody s_is_row) (defScope s_is_row) .none kV2 dc2 pm2 an2 cd2 ct2), sl2⟩)
    (c2 : PySem.W.codeIn K cd2 "is_row" = true)
    (k2 : PySem.W.keepIn K (.ref f2) = true)
    (a3 : PySem.W.nsIn K mainGlobals "common_of" = some (some (.ref f3)))
    (l3 : K.lookup f3 = some ⟨oc3, od3, .func (PySem.W.fnOf "common_of" "common_of" (defArgs s_common_of) (defBody s_common_of) (defScope s_common_of) .none kV3 dc3 pm3 an3 cd3 ct3), sl3⟩)
    (c3 : PySem.W.codeIn K cd3 "common_of" = true)
    (k3 : PySem.W.keepIn K (.ref f3) = true)
    (a4 : PySem.W.nsIn K mainGlobals "low" = some (some (.ref f4)))
    (l4 : K.lookup f4 = some ⟨oc4, od4, .func (PySem.W.fnOf "low" "low" (defArgs s_low) (defBody s_low) (defScope s_low) .none kV4 dc4 pm4 an4 cd4 ct4), sl4⟩)
    (c4 : PySem.W.codeIn K cd4 "low" = true)
    (k4 : PySem.W.keepIn K (.ref f4) = true)
    (a5 : PySem.W.nsIn K mainGlobals "is_fraction" = some (some (.ref f5)))
    (l5 : K.lookup f5 = some ⟨oc5, od5, .func (PySem.W.fnOf "is_fraction" "is_fraction" (defArgs s_is_fraction) (defBody s_is_fraction) (defScope s_is_fraction) .none kV5 dc5 pm5 an5 cd5 ct5), sl5⟩)
    (c5 : PySem.W.codeIn K cd5 "is_fraction" = true)
    (k5 : PySem.W.keepIn K (.ref f5) = true)
    (a6 : PySem.W.nsIn K mainGlobals "whole" = some (some (.ref f6)))
    (l6 : K.lookup f6 = some ⟨oc6, od6, .func (PySem.W.fnOf "whole" "whole" (defArgs s_whole) (defBody s_whole) (defScope s_whole) .none kV6 dc6 pm6 an6 cd6 ct6), sl6⟩)
    (c6 : PySem.W.codeIn K cd6 "whole" = true)
    (k6 : PySem.W.keepIn K (.ref f6) = true)
    (a7 : PySem.W.nsIn K mainGlobals "plus" = some (some (.ref f7)))
    (l7 : K.lookup f7 = some ⟨oc7, od7, .func (PySem.W.fnOf "plus" "plus" (defArgs s_plus) (defBody s_plus) (defScope s_plus) .none kV7 dc7 pm7 an7 cd7 ct7), sl7⟩)
    (c7 : PySem.W.codeIn K cd7 "plus" = true)
    (k7 : PySem.W.keepIn K (.ref f7) = true)
    (a8 : PySem.W.nsIn K mainGlobals "minus" = some (some (.ref f8)))
    (l8 : K.lookup f8 = some ⟨oc8, od8, .func (PySem.W.fnOf "minus" "minus" (defArgs s_minus) (defBody s_minus) (defScope s_minus) .none kV8 dc8 pm8 an8 cd8 ct8), sl8⟩)
    (c8 : PySem.W.codeIn K cd8 "minus" = true)
    (k8 : PySem.W.keepIn K (.ref f8) = true)
    (a9 : PySem.W.nsIn K mainGlobals "times" = some (some (.ref f9)))
    (l9 : K.lookup f9 = some ⟨oc9, od9, .func (PySem.W.fnOf "times" "times" (defArgs s_times) (defBody s_times) (defScope s_times) .none kV9 dc9 pm9 an9 cd9 ct9), sl9⟩)
    (c9 : PySem.W.codeIn K cd9 "times" = true)
    (k9 : PySem.W.keepIn K (.ref f9) = true)
    (a10 : PySem.W.nsIn K mainGlobals "over" = some (some (.ref f10)))
    (l10 : K.lookup f10 = some ⟨oc10, od10, .func (PySem.W.fnOf "over" "over" (defArgs s_over) (defBody s_over) (defScope s_over) .none kV10 dc10 pm10 an10 cd10 ct10), sl10⟩)
    (c10 : PySem.W.codeIn K cd10 "over" = true)
    (k10 : PySem.W.keepIn K (.ref f10) = true)
    (a11 : PySem.W.nsIn K mainGlobals "less" = some (some (.ref f11)))
    (l11 : K.lookup f11 = some ⟨oc11, od11, .func (PySem.W.fnOf "less" "less" (defArgs s_less) (defBody s_less) (defScope s_less) .none kV11 dc11 pm11 an11 cd11 ct11), sl11⟩)
    (c11 : PySem.W.codeIn K cd11 "less" = true)
    (k11 : PySem.W.keepIn K (.ref f11) = true)
    (a12 : PySem.W.nsIn K mainGlobals "amount" = some (some (.ref f12)))
    (l12 : K.lookup f12 = some ⟨oc12, od12, .func (PySem.W.fnOf "amount" "amount" (defArgs s_amount) (defBody s_amount) (defScope s_amount) .none kV12 dc12 pm12 an12 cd12 ct12), sl12⟩)
    (c12 : PySem.W.codeIn K cd12 "amount" = true)
    (k12 : PySem.W.keepIn K (.ref f12) = true)
    (a13 : PySem.W.nsIn K mainGlobals "is_point" = some (some (.ref f13)))
    (l13 : K.lookup f13 = some ⟨oc13, od13, .func (PySem.W.fnOf "is_point" "is_point" (defArgs s_is_point) (defBody s_is_point) (defScope s_is_point) .none kV13 dc13 pm13 an13 cd13 ct13), sl13⟩)
    (c13 : PySem.W.codeIn K cd13 "is_point" = true)
    (k13 : PySem.W.keepIn K (.ref f13) = true)
    (a14 : PySem.W.nsIn K mainGlobals "need_point" = some (some (.ref f14)))
    (l14 : K.lookup f14 = some ⟨oc14, od14, .func (PySem.W.fnOf "need_point" "need_point" (defArgs s_need_point) (defBody s_need_point) (defScope s_need_point) .none kV14 dc14 pm14 an14 cd14 ct14), sl14⟩)
    (c14 : PySem.W.codeIn K cd14 "need_point" = true)
    (k14 : PySem.W.keepIn K (.ref f14) = true)
    (a15 : PySem.W.nsIn K mainGlobals "is_in_land" = some (some (.ref f15)))
    (l15 : K.lookup f15 = some ⟨oc15, od15, .func (PySem.W.fnOf "is_in_land" "is_in_land" (defArgs s_is_in_land) (defBody s_is_in_land) (defScope s_is_in_land) .none kV15 dc15 pm15 an15 cd15 ct15), sl15⟩)
    (c15 : PySem.W.codeIn K cd15 "is_in_land" = true)
    (k15 : PySem.W.keepIn K (.ref f15) = true)
    (a16 : PySem.W.nsIn K mainGlobals "before" = some (some (.ref f16)))
    (l16 : K.lookup f16 = some ⟨oc16, od16, .func (PySem.W.fnOf "before" "before" (defArgs s_before) (defBody s_before) (defScope s_before) .none kV16 dc16 pm16 an16 cd16 ct16), sl16⟩)
    (c16 : PySem.W.codeIn K cd16 "before" = true)
    (k16 : PySem.W.keepIn K (.ref f16) = true)
    (a17 : PySem.W.nsIn K mainGlobals "least_of" = some (some (.ref f17)))
    (l17 : K.lookup f17 = some ⟨oc17, od17, .func (PySem.W.fnOf "least_of" "least_of" (defArgs s_least_of) (defBody s_least_of) (defScope s_least_of) .none kV17 dc17 pm17 an17 cd17 ct17), sl17⟩)
    (c17 : PySem.W.codeIn K cd17 "least_of" = true)
    (k17 : PySem.W.keepIn K (.ref f17) = true)
    (a18 : PySem.W.nsIn K mainGlobals "steps" = some (some (.ref f18)))
    (l18 : K.lookup f18 = some ⟨oc18, od18, .func (PySem.W.fnOf "steps" "steps" (defArgs s_steps) (defBody s_steps) (defScope s_steps) .none kV18 dc18 pm18 an18 cd18 ct18), sl18⟩)
    (c18 : PySem.W.codeIn K cd18 "steps" = true)
    (k18 : PySem.W.keepIn K (.ref f18) = true)
    (a19 : PySem.W.nsIn K mainGlobals "squared_of" = some (some (.ref f19)))
    (l19 : K.lookup f19 = some ⟨oc19, od19, .func (PySem.W.fnOf "squared_of" "squared_of" (defArgs s_squared_of) (defBody s_squared_of) (defScope s_squared_of) .none kV19 dc19 pm19 an19 cd19 ct19), sl19⟩)
    (c19 : PySem.W.codeIn K cd19 "squared_of" = true)
    (k19 : PySem.W.keepIn K (.ref f19) = true)
    (a20 : PySem.W.nsIn K mainGlobals "streetwise_of" = some (some (.ref f20)))
    (l20 : K.lookup f20 = some ⟨oc20, od20, .func (PySem.W.fnOf "streetwise_of" "streetwise_of" (defArgs s_streetwise_of) (defBody s_streetwise_of) (defScope s_streetwise_of) .none kV20 dc20 pm20 an20 cd20 ct20), sl20⟩)
    (c20 : PySem.W.codeIn K cd20 "streetwise_of" = true)
    (k20 : PySem.W.keepIn K (.ref f20) = true)
    (a21 : PySem.W.nsIn K mainGlobals "at_share" = some (some (.ref f21)))
    (l21 : K.lookup f21 = some ⟨oc21, od21, .func (PySem.W.fnOf "at_share" "at_share" (defArgs s_at_share) (defBody s_at_share) (defScope s_at_share) .none kV21 dc21 pm21 an21 cd21 ct21), sl21⟩)
    (c21 : PySem.W.codeIn K cd21 "at_share" = true)
    (k21 : PySem.W.keepIn K (.ref f21) = true)
    (a22 : PySem.W.nsIn K mainGlobals "are_land_points" = some (some (.ref f22)))
    (l22 : K.lookup f22 = some ⟨oc22, od22, .func (PySem.W.fnOf "are_land_points" "are_land_points" (defArgs s_are_land_points) (defBody s_are_land_points) (defScope s_are_land_points) .none kV22 dc22 pm22 an22 cd22 ct22), sl22⟩)
    (c22 : PySem.W.codeIn K cd22 "are_land_points" = true)
    (k22 : PySem.W.keepIn K (.ref f22) = true)
    (a23 : PySem.W.nsIn K mainGlobals "is_road" = some (some (.ref f23)))
    (l23 : K.lookup f23 = some ⟨oc23, od23, .func (PySem.W.fnOf "is_road" "is_road" (defArgs s_is_road) (defBody s_is_road) (defScope s_is_road) .none kV23 dc23 pm23 an23 cd23 ct23), sl23⟩)
    (c23 : PySem.W.codeIn K cd23 "is_road" = true)
    (k23 : PySem.W.keepIn K (.ref f23) = true)
    (a24 : PySem.W.nsIn K mainGlobals "is_web" = some (some (.ref f24)))
    (l24 : K.lookup f24 = some ⟨oc24, od24, .func (PySem.W.fnOf "is_web" "is_web" (defArgs s_is_web) (defBody s_is_web) (defScope s_is_web) .none kV24 dc24 pm24 an24 cd24 ct24), sl24⟩)
    (c24 : PySem.W.codeIn K cd24 "is_web" = true)
    (k24 : PySem.W.keepIn K (.ref f24) = true)
    (a25 : PySem.W.nsIn K mainGlobals "need_web" = some (some (.ref f25)))
    (l25 : K.lookup f25 = some ⟨oc25, od25, .func (PySem.W.fnOf "need_web" "need_web" (defArgs s_need_web) (defBody s_need_web) (defScope s_need_web) .none kV25 dc25 pm25 an25 cd25 ct25), sl25⟩)
    (c25 : PySem.W.codeIn K cd25 "need_web" = true)
    (k25 : PySem.W.keepIn K (.ref f25) = true)
    (a26 : PySem.W.nsIn K mainGlobals "corners_of" = some (some (.ref f26)))
    (l26 : K.lookup f26 = some ⟨oc26, od26, .func (PySem.W.fnOf "corners_of" "corners_of" (defArgs s_corners_of) (defBody s_corners_of) (defScope s_corners_of) .none kV26 dc26 pm26 an26 cd26 ct26), sl26⟩)
    (c26 : PySem.W.codeIn K cd26 "corners_of" = true)
    (k26 : PySem.W.keepIn K (.ref f26) = true)
    (a27 : PySem.W.nsIn K mainGlobals "pieces_of" = some (some (.ref f27)))
    (l27 : K.lookup f27 = some ⟨oc27, od27, .func (PySem.W.fnOf "pieces_of" "pieces_of" (defArgs s_pieces_of) (defBody s_pieces_of) (defScope s_pieces_of) .none kV27 dc27 pm27 an27 cd27 ct27), sl27⟩)
    (c27 : PySem.W.codeIn K cd27 "pieces_of" = true)
    (k27 : PySem.W.keepIn K (.ref f27) = true)
    (a28 : PySem.W.nsIn K mainGlobals "share_near" = some (some (.ref f28)))
    (l28 : K.lookup f28 = some ⟨oc28, od28, .func (PySem.W.fnOf "share_near" "share_near" (defArgs s_share_near) (defBody s_share_near) (defScope s_share_near) .none kV28 dc28 pm28 an28 cd28 ct28), sl28⟩)
    (c28 : PySem.W.codeIn K cd28 "share_near" = true)
    (k28 : PySem.W.keepIn K (.ref f28) = true)
    (a29 : PySem.W.nsIn K mainGlobals "nearest_by" = some (some (.ref f29)))
    (l29 : K.lookup f29 = some ⟨oc29, od29, .func (PySem.W.fnOf "nearest_by" "nearest_by" (defArgs s_nearest_by) (defBody s_nearest_by) (defScope s_nearest_by) .none kV29 dc29 pm29 an29 cd29 ct29), sl29⟩)
    (c29 : PySem.W.codeIn K cd29 "nearest_by" = true)
    (k29 : PySem.W.keepIn K (.ref f29) = true)
    (a30 : PySem.W.nsIn K mainGlobals "nearest_spot" = some (some (.ref f30)))
    (l30 : K.lookup f30 = some ⟨oc30, od30, .func (PySem.W.fnOf "nearest_spot" "nearest_spot" (defArgs s_nearest_spot) (defBody s_nearest_spot) (defScope s_nearest_spot) .none kV30 dc30 pm30 an30 cd30 ct30), sl30⟩)
    (c30 : PySem.W.codeIn K cd30 "nearest_spot" = true)
    (k30 : PySem.W.keepIn K (.ref f30) = true)
    (a31 : PySem.W.nsIn K mainGlobals "_law_cell_at" = some (some (.ref f31)))
    (l31 : K.lookup f31 = some ⟨oc31, od31, .func (PySem.W.fnOf "_law_cell_at" "_law_cell_at" (defArgs s__law_cell_at) (defBody s__law_cell_at) (defScope s__law_cell_at) .none kV31 dc31 pm31 an31 cd31 ct31), sl31⟩)
    (c31 : PySem.W.codeIn K cd31 "_law_cell_at" = true)
    (k31 : PySem.W.keepIn K (.ref f31) = true)
    (a32 : PySem.W.nsIn K mainGlobals "_law_state" = some (some (.ref f32)))
    (l32 : K.lookup f32 = some ⟨oc32, od32, .func (PySem.W.fnOf "_law_state" "_law_state" (defArgs s__law_state) (defBody s__law_state) (defScope s__law_state) .none kV32 dc32 pm32 an32 cd32 ct32), sl32⟩)
    (c32 : PySem.W.codeIn K cd32 "_law_state" = true)
    (k32 : PySem.W.keepIn K (.ref f32) = true)
    (a33 : PySem.W.nsIn K mainGlobals "_law_choice" = some (some (.ref f33)))
    (l33 : K.lookup f33 = some ⟨oc33, od33, .func (PySem.W.fnOf "_law_choice" "_law_choice" (defArgs s__law_choice) (defBody s__law_choice) (defScope s__law_choice) .none kV33 dc33 pm33 an33 cd33 ct33), sl33⟩)
    (c33 : PySem.W.codeIn K cd33 "_law_choice" = true)
    (k33 : PySem.W.keepIn K (.ref f33) = true)
    (a34 : PySem.W.nsIn K mainGlobals "_law_low" = some (some (.ref f34)))
    (l34 : K.lookup f34 = some ⟨oc34, od34, .func (PySem.W.fnOf "_law_low" "_law_low" (defArgs s__law_low) (defBody s__law_low) (defScope s__law_low) .none kV34 dc34 pm34 an34 cd34 ct34), sl34⟩)
    (c34 : PySem.W.codeIn K cd34 "_law_low" = true)
    (k34 : PySem.W.keepIn K (.ref f34) = true)
    (a35 : PySem.W.nsIn K mainGlobals "_law_plus" = some (some (.ref f35)))
    (l35 : K.lookup f35 = some ⟨oc35, od35, .func (PySem.W.fnOf "_law_plus" "_law_plus" (defArgs s__law_plus) (defBody s__law_plus) (defScope s__law_plus) .none kV35 dc35 pm35 an35 cd35 ct35), sl35⟩)
    (c35 : PySem.W.codeIn K cd35 "_law_plus" = true)
    (k35 : PySem.W.keepIn K (.ref f35) = true)
    (a36 : PySem.W.nsIn K mainGlobals "_law_minus" = some (some (.ref f36)))
    (l36 : K.lookup f36 = some ⟨oc36, od36, .func (PySem.W.fnOf "_law_minus" "_law_minus" (defArgs s__law_minus) (defBody s__law_minus) (defScope s__law_minus) .none kV36 dc36 pm36 an36 cd36 ct36), sl36⟩)
    (c36 : PySem.W.codeIn K cd36 "_law_minus" = true)
    (k36 : PySem.W.keepIn K (.ref f36) = true)
    (a37 : PySem.W.nsIn K mainGlobals "_law_times" = some (some (.ref f37)))
    (l37 : K.lookup f37 = some ⟨oc37, od37, .func (PySem.W.fnOf "_law_times" "_law_times" (defArgs s__law_times) (defBody s__law_times) (defScope s__law_times) .none kV37 dc37 pm37 an37 cd37 ct37), sl37⟩)
    (c37 : PySem.W.codeIn K cd37 "_law_times" = true)
    (k37 : PySem.W.keepIn K (.ref f37) = true)
    (a38 : PySem.W.nsIn K mainGlobals "_law_over" = some (some (.ref f38)))
    (l38 : K.lookup f38 = some ⟨oc38, od38, .func (PySem.W.fnOf "_law_over" "_law_over" (defArgs s__law_over) (defBody s__law_over) (defScope s__law_over) .none kV38 dc38 pm38 an38 cd38 ct38), sl38⟩)
    (c38 : PySem.W.codeIn K cd38 "_law_over" = true)
    (k38 : PySem.W.keepIn K (.ref f38) = true)
    (a39 : PySem.W.nsIn K mainGlobals "_law_less" = some (some (.ref f39)))
    (l39 : K.lookup f39 = some ⟨oc39, od39, .func (PySem.W.fnOf "_law_less" "_law_less" (defArgs s__law_less) (defBody s__law_less) (defScope s__law_less) .none kV39 dc39 pm39 an39 cd39 ct39), sl39⟩)
    (c39 : PySem.W.codeIn K cd39 "_law_less" = true)
    (k39 : PySem.W.keepIn K (.ref f39) = true)
    (a40 : PySem.W.nsIn K mainGlobals "_law_amount" = some (some (.ref f40)))
    (l40 : K.lookup f40 = some ⟨oc40, od40, .func (PySem.W.fnOf "_law_amount" "_law_amount" (defArgs s__law_amount) (defBody s__law_amount) (defScope s__law_amount) .none kV40 dc40 pm40 an40 cd40 ct40), sl40⟩)
    (c40 : PySem.W.codeIn K cd40 "_law_amount" = true)
    (k40 : PySem.W.keepIn K (.ref f40) = true)
    (a41 : PySem.W.nsIn K mainGlobals "_law_any" = some (some (.ref f41)))
    (l41 : K.lookup f41 = some ⟨oc41, od41, .func (PySem.W.fnOf "_law_any" "_law_any" (defArgs s__law_any) (defBody s__law_any) (defScope s__law_any) .none kV41 dc41 pm41 an41 cd41 ct41), sl41⟩)
    (c41 : PySem.W.codeIn K cd41 "_law_any" = true)
    (k41 : PySem.W.keepIn K (.ref f41) = true)
    (a42 : PySem.W.nsIn K mainGlobals "_law_any_point" = some (some (.ref f42)))
    (l42 : K.lookup f42 = some ⟨oc42, od42, .func (PySem.W.fnOf "_law_any_point" "_law_any_point" (defArgs s__law_any_point) (defBody s__law_any_point) (defScope s__law_any_point) .none kV42 dc42 pm42 an42 cd42 ct42), sl42⟩)
    (c42 : PySem.W.codeIn K cd42 "_law_any_point" = true)
    (k42 : PySem.W.keepIn K (.ref f42) = true)
    (a43 : PySem.W.nsIn K mainGlobals "_law_land_number" = some (some (.ref f43)))
    (l43 : K.lookup f43 = some ⟨oc43, od43, .func (PySem.W.fnOf "_law_land_number" "_law_land_number" (defArgs s__law_land_number) (defBody s__law_land_number) (defScope s__law_land_number) .none kV43 dc43 pm43 an43 cd43 ct43), sl43⟩)
    (c43 : PySem.W.codeIn K cd43 "_law_land_number" = true)
    (k43 : PySem.W.keepIn K (.ref f43) = true)
    (a44 : PySem.W.nsIn K mainGlobals "_law_land_point" = some (some (.ref f44)))
    (l44 : K.lookup f44 = some ⟨oc44, od44, .func (PySem.W.fnOf "_law_land_point" "_law_land_point" (defArgs s__law_land_point) (defBody s__law_land_point) (defScope s__law_land_point) .none kV44 dc44 pm44 an44 cd44 ct44), sl44⟩)
    (c44 : PySem.W.codeIn K cd44 "_law_land_point" = true)
    (k44 : PySem.W.keepIn K (.ref f44) = true)
    (a45 : PySem.W.nsIn K mainGlobals "_law_web" = some (some (.ref f45)))
    (l45 : K.lookup f45 = some ⟨oc45, od45, .func (PySem.W.fnOf "_law_web" "_law_web" (defArgs s__law_web) (defBody s__law_web) (defScope s__law_web) .none kV45 dc45 pm45 an45 cd45 ct45), sl45⟩)
    (c45 : PySem.W.codeIn K cd45 "_law_web" = true)
    (k45 : PySem.W.keepIn K (.ref f45) = true)
    (a46 : PySem.W.nsIn K mainGlobals "_law_same" = some (some (.ref f46)))
    (l46 : K.lookup f46 = some ⟨oc46, od46, .func (PySem.W.fnOf "_law_same" "_law_same" (defArgs s__law_same) (defBody s__law_same) (defScope s__law_same) .none kV46 dc46 pm46 an46 cd46 ct46), sl46⟩)
    (c46 : PySem.W.codeIn K cd46 "_law_same" = true)
    (k46 : PySem.W.keepIn K (.ref f46) = true)
    (a47 : PySem.W.nsIn K mainGlobals "_law_corners" = some (some (.ref f47)))
    (l47 : K.lookup f47 = some ⟨oc47, od47, .func (PySem.W.fnOf "_law_corners" "_law_corners" (defArgs s__law_corners) (defBody s__law_corners) (defScope s__law_corners) .none kV47 dc47 pm47 an47 cd47 ct47), sl47⟩)
    (c47 : PySem.W.codeIn K cd47 "_law_corners" = true)
    (k47 : PySem.W.keepIn K (.ref f47) = true)
    (a48 : PySem.W.nsIn K mainGlobals "_law_piece" = some (some (.ref f48)))
    (l48 : K.lookup f48 = some ⟨oc48, od48, .func (PySem.W.fnOf "_law_piece" "_law_piece" (defArgs s__law_piece) (defBody s__law_piece) (defScope s__law_piece) .none kV48 dc48 pm48 an48 cd48 ct48), sl48⟩)
    (c48 : PySem.W.codeIn K cd48 "_law_piece" = true)
    (k48 : PySem.W.keepIn K (.ref f48) = true)
    (a49 : PySem.W.nsIn K mainGlobals "_law_long" = some (some (.ref f49)))
    (l49 : K.lookup f49 = some ⟨oc49, od49, .func (PySem.W.fnOf "_law_long" "_law_long" (defArgs s__law_long) (defBody s__law_long) (defScope s__law_long) .none kV49 dc49 pm49 an49 cd49 ct49), sl49⟩)
    (c49 : PySem.W.codeIn K cd49 "_law_long" = true)
    (k49 : PySem.W.keepIn K (.ref f49) = true)
    (a50 : PySem.W.nsIn K mainGlobals "_law_between" = some (some (.ref f50)))
    (l50 : K.lookup f50 = some ⟨oc50, od50, .func (PySem.W.fnOf "_law_between" "_law_between" (defArgs s__law_between) (defBody s__law_between) (defScope s__law_between) .none kV50 dc50 pm50 an50 cd50 ct50), sl50⟩)
    (c50 : PySem.W.codeIn K cd50 "_law_between" = true)
    (k50 : PySem.W.keepIn K (.ref f50) = true)
    (a51 : PySem.W.nsIn K mainGlobals "_law_at" = some (some (.ref f51)))
    (l51 : K.lookup f51 = some ⟨oc51, od51, .func (PySem.W.fnOf "_law_at" "_law_at" (defArgs s__law_at) (defBody s__law_at) (defScope s__law_at) .none kV51 dc51 pm51 an51 cd51 ct51), sl51⟩)
    (c51 : PySem.W.codeIn K cd51 "_law_at" = true)
    (k51 : PySem.W.keepIn K (.ref f51) = true)
    (a52 : PySem.W.nsIn K mainGlobals "_law_far" = some (some (.ref f52)))
    (l52 : K.lookup f52 = some ⟨oc52, od52, .func (PySem.W.fnOf "_law_far" "_law_far" (defArgs s__law_far) (defBody s__law_far) (defScope s__law_far) .none kV52 dc52 pm52 an52 cd52 ct52), sl52⟩)
    (c52 : PySem.W.codeIn K cd52 "_law_far" = true)
    (k52 : PySem.W.keepIn K (.ref f52) = true)
    (a53 : PySem.W.nsIn K mainGlobals "_law_spot" = some (some (.ref f53)))
    (l53 : K.lookup f53 = some ⟨oc53, od53, .func (PySem.W.fnOf "_law_spot" "_law_spot" (defArgs s__law_spot) (defBody s__law_spot) (defScope s__law_spot) .none kV53 dc53 pm53 an53 cd53 ct53), sl53⟩)
    (c53 : PySem.W.codeIn K cd53 "_law_spot" = true)
    (k53 : PySem.W.keepIn K (.ref f53) = true)
    (a54 : PySem.W.nsIn K mainGlobals "_law_roads" = some (some (.ref f54)))
    (l54 : K.lookup f54 = some ⟨oc54, od54, .func (PySem.W.fnOf "_law_roads" "_law_roads" (defArgs s__law_roads) (defBody s__law_roads) (defScope s__law_roads) .none kV54 dc54 pm54 an54 cd54 ct54), sl54⟩)
    (c54 : PySem.W.codeIn K cd54 "_law_roads" = true)
    (k54 : PySem.W.keepIn K (.ref f54) = true)
    (a55 : PySem.W.nsIn K mainGlobals "_law_ahead" = some (some (.ref f55)))
    (l55 : K.lookup f55 = some ⟨oc55, od55, .func (PySem.W.fnOf "_law_ahead" "_law_ahead" (defArgs s__law_ahead) (defBody s__law_ahead) (defScope s__law_ahead) .none kV55 dc55 pm55 an55 cd55 ct55), sl55⟩)
    (c55 : PySem.W.codeIn K cd55 "_law_ahead" = true)
    (k55 : PySem.W.keepIn K (.ref f55) = true)
    (a56 : PySem.W.nsIn K mainGlobals "_law_squared" = some (some (.ref f56)))
    (l56 : K.lookup f56 = some ⟨oc56, od56, .func (PySem.W.fnOf "_law_squared" "_law_squared" (defArgs s__law_squared) (defBody s__law_squared) (defScope s__law_squared) .none kV56 dc56 pm56 an56 cd56 ct56), sl56⟩)
    (c56 : PySem.W.codeIn K cd56 "_law_squared" = true)
    (k56 : PySem.W.keepIn K (.ref f56) = true)
    (a57 : PySem.W.nsIn K mainGlobals "_law_part" = some (some (.ref f57)))
    (l57 : K.lookup f57 = some ⟨oc57, od57, .func (PySem.W.fnOf "_law_part" "_law_part" (defArgs s__law_part) (defBody s__law_part) (defScope s__law_part) .none kV57 dc57 pm57 an57 cd57 ct57), sl57⟩)
    (c57 : PySem.W.codeIn K cd57 "_law_part" = true)
    (k57 : PySem.W.keepIn K (.ref f57) = true)
    (a58 : PySem.W.nsIn K mainGlobals "_law_near" = some (some (.ref f58)))
    (l58 : K.lookup f58 = some ⟨oc58, od58, .func (PySem.W.fnOf "_law_near" "_law_near" (defArgs s__law_near) (defBody s__law_near) (defScope s__law_near) .none kV58 dc58 pm58 an58 cd58 ct58), sl58⟩)
    (c58 : PySem.W.codeIn K cd58 "_law_near" = true)
    (k58 : PySem.W.keepIn K (.ref f58) = true)
    (a59 : PySem.W.nsIn K mainGlobals "_law_none_nearer" = some (some (.ref f59)))
    (l59 : K.lookup f59 = some ⟨oc59, od59, .func (PySem.W.fnOf "_law_none_nearer" "_law_none_nearer" (defArgs s__law_none_nearer) (defBody s__law_none_nearer) (defScope s__law_none_nearer) .none kV59 dc59 pm59 an59 cd59 ct59), sl59⟩)
    (c59 : PySem.W.codeIn K cd59 "_law_none_nearer" = true)
    (k59 : PySem.W.keepIn K (.ref f59) = true)
    (a60 : PySem.W.nsIn K mainGlobals "_law_points" = some (some (.ref f60)))
    (l60 : K.lookup f60 = some ⟨oc60, od60, .func (PySem.W.fnOf "_law_points" "_law_points" (defArgs s__law_points) (defBody s__law_points) (defScope s__law_points) .none kV60 dc60 pm60 an60 cd60 ct60), sl60⟩)
    (c60 : PySem.W.codeIn K cd60 "_law_points" = true)
    (k60 : PySem.W.keepIn K (.ref f60) = true)
    (a61 : PySem.W.nsIn K mainGlobals "law" = some (some (.ref f61)))
    (l61 : K.lookup f61 = some ⟨oc61, od61, .func (PySem.W.fnOf "law" "law" (defArgs s_law) (defBody s_law) (defScope s_law) .none kV61 dc61 pm61 an61 cd61 ct61), sl61⟩)
    (c61 : PySem.W.codeIn K cd61 "law" = true)
    (k61 : PySem.W.keepIn K (.ref f61) = true)
    (z_abs : PySem.W.nsIn K mainGlobals "abs" = some none)
    (z_all : PySem.W.nsIn K mainGlobals "all" = some none)
    (z_bool : PySem.W.nsIn K mainGlobals "bool" = some none)
    (z_int : PySem.W.nsIn K mainGlobals "int" = some none)
    (z_isinstance : PySem.W.nsIn K mainGlobals "isinstance" = some none)
    (z_len : PySem.W.nsIn K mainGlobals "len" = some none)
    (z_list : PySem.W.nsIn K mainGlobals "list" = some none)
    (z_max : PySem.W.nsIn K mainGlobals "max" = some none)
    (z_min : PySem.W.nsIn K mainGlobals "min" = some none)
    (z_range : PySem.W.nsIn K mainGlobals "range" = some none)
    (z_repr : PySem.W.nsIn K mainGlobals "repr" = some none)
    (z_tuple : PySem.W.nsIn K mainGlobals "tuple" = some none)
    (z_zip : PySem.W.nsIn K mainGlobals "zip" = some none)
    (g_LAND : PySem.W.nsIn K mainGlobals "LAND" = some (some (.int 64 ti_LAND)))
    (g_MOST_CROSSINGS : PySem.W.nsIn K mainGlobals "MOST_CROSSINGS" = some (some (.int 10 ti_MOST_CROSSINGS)))
    (g_MOST_MIDDLE : PySem.W.nsIn K mainGlobals "MOST_MIDDLE" = some (some (.int 4 ti_MOST_MIDDLE)))
    (g_MOST_ROADS : PySem.W.nsIn K mainGlobals "MOST_ROADS" = some (some (.int 14 ti_MOST_ROADS)))
    (g_NOUGHT : PySem.W.nsIn K mainGlobals "NOUGHT" = some (some (.ref ta_NOUGHT)))
    (tl_NOUGHT : K.lookup ta_NOUGHT = some ⟨.type "tuple", td_NOUGHT, .seq #[(.int 0 ti_NOUGHT_0), (.int 1 ti_NOUGHT_1)] tn_NOUGHT, ts_NOUGHT⟩)
    (g_ONE : PySem.W.nsIn K mainGlobals "ONE" = some (some (.ref ta_ONE)))
    (tl_ONE : K.lookup ta_ONE = some ⟨.type "tuple", td_ONE, .seq #[(.int 1 ti_ONE_0), (.int 1 ti_ONE_1)] tn_ONE, ts_ONE⟩) :
    ∃ fd : FuncData, (∀ (s : Shared) (v : Value), BindsTo s fd ⟨[v], []⟩ [("_law_script", v)]) ∧ ∀ base : Heap, K.In base → base.Ns mainGlobals mg → FnG P w K mg base 9 fa fd ["_law_script"] sp_law := by
  have e := hfa.symm.trans (PySem.W.mg_of X G a61)
  cases e
  refine ⟨?fd, ?bd, fun base _ _ => ?fg⟩
  rotate_left 2
  have F0 := funV_mk (st := s_is_whole) l0 c0 k0
  have B0 : Binds K _ ["thing"] [] := F0.binds (ps := ["thing"]) (fun _ _ _ _ _ _ us hl => match us, hl with | [_], _ => rfl)
  have G0 := ok_is_whole (P := P) (w := w) (mg := mg) (base := base) F0 (PySem.W.mg_none_of X G z_bool) (PySem.W.mg_none_of X G z_int) (PySem.W.mg_none_of X G z_isinstance)
  have C_is_whole : Cal P w K mg base (1) "is_whole" [] sp_is_whole := ⟨⟨f0, _, _, [], [], PySem.W.mg_of X G a0, k0, B0, .nil, fun _ _ => rfl, G0⟩⟩
  have F1 := funV_mk (st := s_is_within) l1 c1 k1
  have B1 : Binds K _ ["thing", "least", "most"] [] := F1.binds (ps := ["thing", "least", "most"]) (fun _ _ _ _ _ _ us hl => match us, hl with | [_, _, _], _ => rfl)
  have G1 := ok_is_within (P := P) (w := w) (mg := mg) (base := base) F1 C_is_whole
  have C_is_within : Cal P w K mg base (2) "is_within" [] sp_is_within := ⟨⟨f1, _, _, [], [], PySem.W.mg_of X G a1, k1, B1, .nil, fun _ _ => rfl, G1⟩⟩
  have F2 := funV_mk (st := s_is_row) l2 c2 k2
  have B2 : Binds K _ ["thing", "least", "most", "many"] [] := F2.binds (ps := ["thing", "least", "most", "many"]) (fun _ _ _ _ _ _ us hl => match us, hl with | [_, _, _, _], _ => rfl)
  have G2 := ok_is_row (P := P) (w := w) (mg := mg) (base := base) F2 (PySem.W.mg_none_of X G z_all) (PySem.W.mg_none_of X G z_isinstance) (PySem.W.mg_none_of X G z_len) (PySem.W.mg_none_of X G z_tuple)
  have C_is_row : Cal P w K mg base (1) "is_row" [] sp_is_row := ⟨⟨f2, _, _, [], [], PySem.W.mg_of X G a2, k2, B2, .nil, fun _ _ => rfl, G2⟩⟩
  have F3 := funV_mk (st := s_common_of) l3 c3 k3
  have B3 : Binds K _ ["one", "other"] [] := F3.binds (ps := ["one", "other"]) (fun _ _ _ _ _ _ us hl => match us, hl with | [_, _], _ => rfl)
  have G3 := ok_common_of (P := P) (w := w) (mg := mg) (base := base) F3 (PySem.W.mg_none_of X G z_abs)
  have C_common_of : Cal P w K mg base (1) "common_of" [] sp_common_of := ⟨⟨f3, _, _, [], [], PySem.W.mg_of X G a3, k3, B3, .nil, fun _ _ => rfl, G3⟩⟩
  have F4 := funV_mk (st := s_low) l4 c4 k4
  have B4 : Binds K _ ["top", "bottom"] [] := F4.binds (ps := ["top", "bottom"]) (fun _ _ _ _ _ _ us hl => match us, hl with | [_, _], _ => rfl)
  have G4 := ok_low (P := P) (w := w) (mg := mg) (base := base) F4 C_common_of
  have C_low : Cal P w K mg base (2) "low" [] sp_low := ⟨⟨f4, _, _, [], [], PySem.W.mg_of X G a4, k4, B4, .nil, fun _ _ => rfl, G4⟩⟩
  have F5 := funV_mk (st := s_is_fraction) l5 c5 k5
  have B5 : Binds K _ ["thing"] [] := F5.binds (ps := ["thing"]) (fun _ _ _ _ _ _ us hl => match us, hl with | [_], _ => rfl)
  have G5 := ok_is_fraction (P := P) (w := w) (mg := mg) (base := base) F5 (PySem.W.mg_none_of X G z_isinstance) (PySem.W.mg_none_of X G z_len) (PySem.W.mg_none_of X G z_tuple) C_common_of C_is_whole
  have C_is_fraction : Cal P w K mg base (2) "is_fraction" [] sp_is_fraction := ⟨⟨f5, _, _, [], [], PySem.W.mg_of X G a5, k5, B5, .nil, fun _ _ => rfl, G5⟩⟩
  have F6 := funV_mk (st := s_whole) l6 c6 k6
  have B6 : Binds K _ ["number"] [] := F6.binds (ps := ["number"]) (fun _ _ _ _ _ _ us hl => match us, hl with | [_], _ => rfl)
  have G6 := ok_whole (P := P) (w := w) (mg := mg) (base := base) F6
  have C_whole : Cal P w K mg base (1) "whole" [] sp_whole := ⟨⟨f6, _, _, [], [], PySem.W.mg_of X G a6, k6, B6, .nil, fun _ _ => rfl, G6⟩⟩
  have F7 := funV_mk (st := s_plus) l7 c7 k7
  have B7 : Binds K _ ["one", "other"] [] := F7.binds (ps := ["one", "other"]) (fun _ _ _ _ _ _ us hl => match us, hl with | [_, _], _ => rfl)
  have G7 := ok_plus (P := P) (w := w) (mg := mg) (base := base) F7 C_low
  have C_plus : Cal P w K mg base (3) "plus" [] sp_plus := ⟨⟨f7, _, _, [], [], PySem.W.mg_of X G a7, k7, B7, .nil, fun _ _ => rfl, G7⟩⟩
  have F8 := funV_mk (st := s_minus) l8 c8 k8
  have B8 : Binds K _ ["one", "other"] [] := F8.binds (ps := ["one", "other"]) (fun _ _ _ _ _ _ us hl => match us, hl with | [_, _], _ => rfl)
  have G8 := ok_minus (P := P) (w := w) (mg := mg) (base := base) F8 C_low
  have C_minus : Cal P w K mg base (3) "minus" [] sp_minus := ⟨⟨f8, _, _, [], [], PySem.W.mg_of X G a8, k8, B8, .nil, fun _ _ => rfl, G8⟩⟩
  have F9 := funV_mk (st := s_times) l9 c9 k9
  have B9 : Binds K _ ["one", "other"] [] := F9.binds (ps := ["one", "other"]) (fun _ _ _ _ _ _ us hl => match us, hl with | [_, _], _ => rfl)
  have G9 := ok_times (P := P) (w := w) (mg := mg) (base := base) F9 C_low
  have C_times : Cal P w K mg base (3) "times" [] sp_times := ⟨⟨f9, _, _, [], [], PySem.W.mg_of X G a9, k9, B9, .nil, fun _ _ => rfl, G9⟩⟩
  have F10 := funV_mk (st := s_over) l10 c10 k10
  have B10 : Binds K _ ["one", "other"] [] := F10.binds (ps := ["one", "other"]) (fun _ _ _ _ _ _ us hl => match us, hl with | [_, _], _ => rfl)
  have G10 := ok_over (P := P) (w := w) (mg := mg) (base := base) F10 C_low
  have C_over : Cal P w K mg base (3) "over" [] sp_over := ⟨⟨f10, _, _, [], [], PySem.W.mg_of X G a10, k10, B10, .nil, fun _ _ => rfl, G10⟩⟩
  have F11 := funV_mk (st := s_less) l11 c11 k11
  have B11 : Binds K _ ["one", "other"] [] := F11.binds (ps := ["one", "other"]) (fun _ _ _ _ _ _ us hl => match us, hl with | [_, _], _ => rfl)
  have G11 := ok_less (P := P) (w := w) (mg := mg) (base := base) F11
  have C_less : Cal P w K mg base (1) "less" [] sp_less := ⟨⟨f11, _, _, [], [], PySem.W.mg_of X G a11, k11, B11, .nil, fun _ _ => rfl, G11⟩⟩
  have F12 := funV_mk (st := s_amount) l12 c12 k12
  have B12 : Binds K _ ["one"] [] := F12.binds (ps := ["one"]) (fun _ _ _ _ _ _ us hl => match us, hl with | [_], _ => rfl)
  have G12 := ok_amount (P := P) (w := w) (mg := mg) (base := base) F12 (PySem.W.mg_none_of X G z_abs)
  have C_amount : Cal P w K mg base (1) "amount" [] sp_amount := ⟨⟨f12, _, _, [], [], PySem.W.mg_of X G a12, k12, B12, .nil, fun _ _ => rfl, G12⟩⟩
  have F13 := funV_mk (st := s_is_point) l13 c13 k13
  have B13 : Binds K _ ["thing"] [] := F13.binds (ps := ["thing"]) (fun _ _ _ _ _ _ us hl => match us, hl with | [_], _ => rfl)
  have G13 := ok_is_point (P := P) (w := w) (mg := mg) (base := base) F13 (PySem.W.mg_none_of X G z_isinstance) (PySem.W.mg_none_of X G z_len) (PySem.W.mg_none_of X G z_tuple) C_is_fraction
  have C_is_point : Cal P w K mg base (3) "is_point" [] sp_is_point := ⟨⟨f13, _, _, [], [], PySem.W.mg_of X G a13, k13, B13, .nil, fun _ _ => rfl, G13⟩⟩
  have F14 := funV_mk (st := s_need_point) l14 c14 k14
  have B14 : Binds K _ ["thing"] [] := F14.binds (ps := ["thing"]) (fun _ _ _ _ _ _ us hl => match us, hl with | [_], _ => rfl)
  have G14 := ok_need_point (P := P) (w := w) (mg := mg) (base := base) F14 C_is_point
  have C_need_point : Cal P w K mg base (4) "need_point" [] sp_need_point := ⟨⟨f14, _, _, [], [], PySem.W.mg_of X G a14, k14, B14, .nil, fun _ _ => rfl, G14⟩⟩
  have F15 := funV_mk (st := s_is_in_land) l15 c15 k15
  have B15 : Binds K _ ["point"] [] := F15.binds (ps := ["point"]) (fun _ _ _ _ _ _ us hl => match us, hl with | [_], _ => rfl)
  have G15 := ok_is_in_land (P := P) (w := w) (mg := mg) (base := base) F15 (PySem.W.mg_none_of X G z_all) ⟨_, PySem.W.mg_of X G g_LAND, KRep.int⟩
  have C_is_in_land : Cal P w K mg base (1) "is_in_land" [] sp_is_in_land := ⟨⟨f15, _, _, [], [], PySem.W.mg_of X G a15, k15, B15, .nil, fun _ _ => rfl, G15⟩⟩
  have F16 := funV_mk (st := s_before) l16 c16 k16
  have B16 : Binds K _ ["one", "other"] [] := F16.binds (ps := ["one", "other"]) (fun _ _ _ _ _ _ us hl => match us, hl with | [_, _], _ => rfl)
  have G16 := ok_before (P := P) (w := w) (mg := mg) (base := base) F16 (PySem.W.mg_none_of X G z_zip) C_less
  have C_before : Cal P w K mg base (2) "before" [] sp_before := ⟨⟨f16, _, _, [], [], PySem.W.mg_of X G a16, k16, B16, .nil, fun _ _ => rfl, G16⟩⟩
  have F17 := funV_mk (st := s_least_of) l17 c17 k17
  have B17 : Binds K _ ["rows"] [] := F17.binds (ps := ["rows"]) (fun _ _ _ _ _ _ us hl => match us, hl with | [_], _ => rfl)
  have G17 := ok_least_of (P := P) (w := w) (mg := mg) (base := base) F17 C_before
  have C_least_of : Cal P w K mg base (3) "least_of" [] sp_least_of := ⟨⟨f17, _, _, [], [], PySem.W.mg_of X G a17, k17, B17, .nil, fun _ _ => rfl, G17⟩⟩
  have F18 := funV_mk (st := s_steps) l18 c18 k18
  have B18 : Binds K _ ["one", "other"] [] := F18.binds (ps := ["one", "other"]) (fun _ _ _ _ _ _ us hl => match us, hl with | [_, _], _ => rfl)
  have G18 := ok_steps (P := P) (w := w) (mg := mg) (base := base) F18 C_amount C_minus
  have C_steps : Cal P w K mg base (4) "steps" [] sp_steps := ⟨⟨f18, _, _, [], [], PySem.W.mg_of X G a18, k18, B18, .nil, fun _ _ => rfl, G18⟩⟩
  have F19 := funV_mk (st := s_squared_of) l19 c19 k19
  have B19 : Binds K _ ["one", "other"] [] := F19.binds (ps := ["one", "other"]) (fun _ _ _ _ _ _ us hl => match us, hl with | [_, _], _ => rfl)
  have G19 := ok_squared_of (P := P) (w := w) (mg := mg) (base := base) F19 C_plus C_steps C_times
  have C_squared_of : Cal P w K mg base (5) "squared_of" [] sp_squared_of := ⟨⟨f19, _, _, [], [], PySem.W.mg_of X G a19, k19, B19, .nil, fun _ _ => rfl, G19⟩⟩
  have F20 := funV_mk (st := s_streetwise_of) l20 c20 k20
  have B20 : Binds K _ ["one", "other"] [] := F20.binds (ps := ["one", "other"]) (fun _ _ _ _ _ _ us hl => match us, hl with | [_, _], _ => rfl)
  have G20 := ok_streetwise_of (P := P) (w := w) (mg := mg) (base := base) F20 C_plus C_steps
  have C_streetwise_of : Cal P w K mg base (5) "streetwise_of" [] sp_streetwise_of := ⟨⟨f20, _, _, [], [], PySem.W.mg_of X G a20, k20, B20, .nil, fun _ _ => rfl, G20⟩⟩
  have F21 := funV_mk (st := s_at_share) l21 c21 k21
  have B21 : Binds K _ ["one", "other", "share"] [] := F21.binds (ps := ["one", "other", "share"]) (fun _ _ _ _ _ _ us hl => match us, hl with | [_, _, _], _ => rfl)
  have G21 := ok_at_share (P := P) (w := w) (mg := mg) (base := base) F21 (PySem.W.mg_none_of X G z_tuple) (PySem.W.mg_none_of X G z_zip) C_minus C_plus C_times
  have C_at_share : Cal P w K mg base (4) "at_share" [] sp_at_share := ⟨⟨f21, _, _, [], [], PySem.W.mg_of X G a21, k21, B21, .nil, fun _ _ => rfl, G21⟩⟩
  have F22 := funV_mk (st := s_are_land_points) l22 c22 k22
  have B22 : Binds K _ ["thing", "least", "most"] [] := F22.binds (ps := ["thing", "least", "most"]) (fun _ _ _ _ _ _ us hl => match us, hl with | [_, _, _], _ => rfl)
  have G22 := ok_are_land_points (P := P) (w := w) (mg := mg) (base := base) F22 (PySem.W.mg_none_of X G z_all) (PySem.W.mg_none_of X G z_isinstance) (PySem.W.mg_none_of X G z_len) (PySem.W.mg_none_of X G z_tuple) C_is_in_land C_is_point
  have C_are_land_points : Cal P w K mg base (4) "are_land_points" [] sp_are_land_points := ⟨⟨f22, _, _, [], [], PySem.W.mg_of X G a22, k22, B22, .nil, fun _ _ => rfl, G22⟩⟩
  have F23 := funV_mk (st := s_is_road) l23 c23 k23
  have B23 : Binds K _ ["crossings", "thing"] [] := F23.binds (ps := ["crossings", "thing"]) (fun _ _ _ _ _ _ us hl => match us, hl with | [_, _], _ => rfl)
  have G23 := ok_is_road (P := P) (w := w) (mg := mg) (base := base) F23 (PySem.W.mg_none_of X G z_all) (PySem.W.mg_none_of X G z_len) (PySem.W.mg_none_of X G z_zip) ⟨_, PySem.W.mg_of X G g_MOST_MIDDLE, KRep.int⟩ C_are_land_points C_is_within
  have C_is_road : Cal P w K mg base (5) "is_road" [] sp_is_road := ⟨⟨f23, _, _, [], [], PySem.W.mg_of X G a23, k23, B23, .nil, fun _ _ => rfl, G23⟩⟩
  have F24 := funV_mk (st := s_is_web) l24 c24 k24
  have B24 : Binds K _ ["thing"] [] := F24.binds (ps := ["thing"]) (fun _ _ _ _ _ _ us hl => match us, hl with | [_], _ => rfl)
  have G24 := ok_is_web (P := P) (w := w) (mg := mg) (base := base) F24 (PySem.W.mg_none_of X G z_all) (PySem.W.mg_none_of X G z_isinstance) (PySem.W.mg_none_of X G z_len) (PySem.W.mg_none_of X G z_tuple) ⟨_, PySem.W.mg_of X G g_MOST_CROSSINGS, KRep.int⟩ ⟨_, PySem.W.mg_of X G g_MOST_ROADS, KRep.int⟩ C_are_land_points C_is_road C_is_row
  have C_is_web : Cal P w K mg base (6) "is_web" [] sp_is_web := ⟨⟨f24, _, _, [], [], PySem.W.mg_of X G a24, k24, B24, .nil, fun _ _ => rfl, G24⟩⟩
  have F25 := funV_mk (st := s_need_web) l25 c25 k25
  have B25 : Binds K _ ["thing"] [] := F25.binds (ps := ["thing"]) (fun _ _ _ _ _ _ us hl => match us, hl with | [_], _ => rfl)
  have G25 := ok_need_web (P := P) (w := w) (mg := mg) (base := base) F25 C_is_web
  have C_need_web : Cal P w K mg base (7) "need_web" [] sp_need_web := ⟨⟨f25, _, _, [], [], PySem.W.mg_of X G a25, k25, B25, .nil, fun _ _ => rfl, G25⟩⟩
  have F26 := funV_mk (st := s_corners_of) l26 c26 k26
  have B26 : Binds K _ ["web", "road"] [] := F26.binds (ps := ["web", "road"]) (fun _ _ _ _ _ _ us hl => match us, hl with | [_, _], _ => rfl)
  have G26 := ok_corners_of (P := P) (w := w) (mg := mg) (base := base) F26
  have C_corners_of : Cal P w K mg base (1) "corners_of" [] sp_corners_of := ⟨⟨f26, _, _, [], [], PySem.W.mg_of X G a26, k26, B26, .nil, fun _ _ => rfl, G26⟩⟩
  have F27 := funV_mk (st := s_pieces_of) l27 c27 k27
  have B27 : Binds K _ ["web", "road"] [] := F27.binds (ps := ["web", "road"]) (fun _ _ _ _ _ _ us hl => match us, hl with | [_, _], _ => rfl)
  have G27 := ok_pieces_of (P := P) (w := w) (mg := mg) (base := base) F27 (PySem.W.mg_none_of X G z_list) (PySem.W.mg_none_of X G z_zip) C_corners_of
  have C_pieces_of : Cal P w K mg base (2) "pieces_of" [] sp_pieces_of := ⟨⟨f27, _, _, [], [], PySem.W.mg_of X G a27, k27, B27, .nil, fun _ _ => rfl, G27⟩⟩
  have F28 := funV_mk (st := s_share_near) l28 c28 k28
  have B28 : Binds K _ ["one", "other", "point"] [] := F28.binds (ps := ["one", "other", "point"]) (fun _ _ _ _ _ _ us hl => match us, hl with | [_, _, _], _ => rfl)
  have G28 := ok_share_near (P := P) (w := w) (mg := mg) (base := base) F28 (PySem.W.mg_none_of X G z_zip) ⟨_, PySem.W.mg_of X G g_NOUGHT, (KRep.tup tl_NOUGHT (KReps.cons KRep.int (KReps.cons KRep.int KReps.nil)))⟩ ⟨_, PySem.W.mg_of X G g_ONE, (KRep.tup tl_ONE (KReps.cons KRep.int (KReps.cons KRep.int KReps.nil)))⟩ C_less C_minus C_over C_plus C_times
  have C_share_near : Cal P w K mg base (4) "share_near" [] sp_share_near := ⟨⟨f28, _, _, [], [], PySem.W.mg_of X G a28, k28, B28, .nil, fun _ _ => rfl, G28⟩⟩
  have F29 := funV_mk (st := s_nearest_by) l29 c29 k29
  have B29 : Binds K _ ["web", "point"] [] := F29.binds (ps := ["web", "point"]) (fun _ _ _ _ _ _ us hl => match us, hl with | [_, _], _ => rfl)
  have G29 := ok_nearest_by (P := P) (w := w) (mg := mg) (base := base) F29 (PySem.W.mg_none_of X G z_len) (PySem.W.mg_none_of X G z_range) ⟨_, PySem.W.mg_of X G g_NOUGHT, (KRep.tup tl_NOUGHT (KReps.cons KRep.int (KReps.cons KRep.int KReps.nil)))⟩ C_at_share C_least_of C_pieces_of C_plus C_share_near C_squared_of C_streetwise_of C_times C_whole
  have C_nearest_by : Cal P w K mg base (6) "nearest_by" [] sp_nearest_by := ⟨⟨f29, _, _, [], [], PySem.W.mg_of X G a29, k29, B29, .nil, fun _ _ => rfl, G29⟩⟩
  have F30 := funV_mk (st := s_nearest_spot) l30 c30 k30
  have B30 : Binds K _ ["web", "point"] [] := F30.binds (ps := ["web", "point"]) (fun _ _ _ _ _ _ us hl => match us, hl with | [_, _], _ => rfl)
  have G30 := ok_nearest_spot (P := P) (w := w) (mg := mg) (base := base) F30 C_nearest_by C_need_point C_need_web
  have C_nearest_spot : Cal P w K mg base (8) "nearest_spot" [] sp_nearest_spot := ⟨⟨f30, _, _, [], [], PySem.W.mg_of X G a30, k30, B30, .nil, fun _ _ => rfl, G30⟩⟩
  have F31 := funV_mk (st := s__law_cell_at) l31 c31 k31
  have B31 : Binds K _ ["_law_script", "_law_k"] [] := F31.binds (ps := ["_law_script", "_law_k"]) (fun _ _ _ _ _ _ us hl => match us, hl with | [_, _], _ => rfl)
  have G31 := ok__law_cell_at (P := P) (w := w) (mg := mg) (base := base) F31 (PySem.W.mg_none_of X G z_len)
  have C__law_cell_at : Cal P w K mg base (1) "_law_cell_at" [] sp__law_cell_at := ⟨⟨f31, _, _, [], [], PySem.W.mg_of X G a31, k31, B31, .nil, fun _ _ => rfl, G31⟩⟩
  have F32 := funV_mk (st := s__law_state) l32 c32 k32
  have B32 : Binds K _ ["_law_script", "_law_k"] [] := F32.binds (ps := ["_law_script", "_law_k"]) (fun _ _ _ _ _ _ us hl => match us, hl with | [_, _], _ => rfl)
  have G32 := ok__law_state (P := P) (w := w) (mg := mg) (base := base) F32 (PySem.W.mg_none_of X G z_max) C__law_cell_at
  have C__law_state : Cal P w K mg base (2) "_law_state" [] sp__law_state := ⟨⟨f32, _, _, [], [], PySem.W.mg_of X G a32, k32, B32, .nil, fun _ _ => rfl, G32⟩⟩
  have F33 := funV_mk (st := s__law_choice) l33 c33 k33
  have B33 : Binds K _ ["_law_state_here", "_law_many"] [] := F33.binds (ps := ["_law_state_here", "_law_many"]) (fun _ _ _ _ _ _ us hl => match us, hl with | [_, _], _ => rfl)
  have G33 := ok__law_choice (P := P) (w := w) (mg := mg) (base := base) F33
  have C__law_choice : Cal P w K mg base (1) "_law_choice" [] sp__law_choice := ⟨⟨f33, _, _, [], [], PySem.W.mg_of X G a33, k33, B33, .nil, fun _ _ => rfl, G33⟩⟩
  have F34 := funV_mk (st := s__law_low) l34 c34 k34
  have B34 : Binds K _ ["_law_top", "_law_bottom"] [] := F34.binds (ps := ["_law_top", "_law_bottom"]) (fun _ _ _ _ _ _ us hl => match us, hl with | [_, _], _ => rfl)
  have G34 := ok__law_low (P := P) (w := w) (mg := mg) (base := base) F34 (PySem.W.mg_none_of X G z_abs)
  have C__law_low : Cal P w K mg base (1) "_law_low" [] sp__law_low := ⟨⟨f34, _, _, [], [], PySem.W.mg_of X G a34, k34, B34, .nil, fun _ _ => rfl, G34⟩⟩
  have F35 := funV_mk (st := s__law_plus) l35 c35 k35
  have B35 : Binds K _ ["_law_one", "_law_other"] [] := F35.binds (ps := ["_law_one", "_law_other"]) (fun _ _ _ _ _ _ us hl => match us, hl with | [_, _], _ => rfl)
  have G35 := ok__law_plus (P := P) (w := w) (mg := mg) (base := base) F35 C__law_low
  have C__law_plus : Cal P w K mg base (2) "_law_plus" [] sp__law_plus := ⟨⟨f35, _, _, [], [], PySem.W.mg_of X G a35, k35, B35, .nil, fun _ _ => rfl, G35⟩⟩
  have F36 := funV_mk (st := s__law_minus) l36 c36 k36
  have B36 : Binds K _ ["_law_one", "_law_other"] [] := F36.binds (ps := ["_law_one", "_law_other"]) (fun _ _ _ _ _ _ us hl => match us, hl with | [_, _], _ => rfl)
  have G36 := ok__law_minus (P := P) (w := w) (mg := mg) (base := base) F36 C__law_low
  have C__law_minus : Cal P w K mg base (2) "_law_minus" [] sp__law_minus := ⟨⟨f36, _, _, [], [], PySem.W.mg_of X G a36, k36, B36, .nil, fun _ _ => rfl, G36⟩⟩
  have F37 := funV_mk (st := s__law_times) l37 c37 k37
  have B37 : Binds K _ ["_law_one", "_law_other"] [] := F37.binds (ps := ["_law_one", "_law_other"]) (fun _ _ _ _ _ _ us hl => match us, hl with | [_, _], _ => rfl)
  have G37 := ok__law_times (P := P) (w := w) (mg := mg) (base := base) F37 C__law_low
  have C__law_times : Cal P w K mg base (2) "_law_times" [] sp__law_times := ⟨⟨f37, _, _, [], [], PySem.W.mg_of X G a37, k37, B37, .nil, fun _ _ => rfl, G37⟩⟩
  have F38 := funV_mk (st := s__law_over) l38 c38 k38
  have B38 : Binds K _ ["_law_one", "_law_other"] [] := F38.binds (ps := ["_law_one", "_law_other"]) (fun _ _ _ _ _ _ us hl => match us, hl with | [_, _], _ => rfl)
  have G38 := ok__law_over (P := P) (w := w) (mg := mg) (base := base) F38 C__law_low
  have C__law_over : Cal P w K mg base (2) "_law_over" [] sp__law_over := ⟨⟨f38, _, _, [], [], PySem.W.mg_of X G a38, k38, B38, .nil, fun _ _ => rfl, G38⟩⟩
  have F39 := funV_mk (st := s__law_less) l39 c39 k39
  have B39 : Binds K _ ["_law_one", "_law_other"] [] := F39.binds (ps := ["_law_one", "_law_other"]) (fun _ _ _ _ _ _ us hl => match us, hl with | [_, _], _ => rfl)
  have G39 := ok__law_less (P := P) (w := w) (mg := mg) (base := base) F39
  have C__law_less : Cal P w K mg base (1) "_law_less" [] sp__law_less := ⟨⟨f39, _, _, [], [], PySem.W.mg_of X G a39, k39, B39, .nil, fun _ _ => rfl, G39⟩⟩
  have F40 := funV_mk (st := s__law_amount) l40 c40 k40
  have B40 : Binds K _ ["_law_one"] [] := F40.binds (ps := ["_law_one"]) (fun _ _ _ _ _ _ us hl => match us, hl with | [_], _ => rfl)
  have G40 := ok__law_amount (P := P) (w := w) (mg := mg) (base := base) F40 (PySem.W.mg_none_of X G z_abs)
  have C__law_amount : Cal P w K mg base (1) "_law_amount" [] sp__law_amount := ⟨⟨f40, _, _, [], [], PySem.W.mg_of X G a40, k40, B40, .nil, fun _ _ => rfl, G40⟩⟩
  have F41 := funV_mk (st := s__law_any) l41 c41 k41
  have B41 : Binds K _ ["_law_state_here"] [] := F41.binds (ps := ["_law_state_here"]) (fun _ _ _ _ _ _ us hl => match us, hl with | [_], _ => rfl)
  have G41 := ok__law_any (P := P) (w := w) (mg := mg) (base := base) F41 C__law_choice C__law_low
  have C__law_any : Cal P w K mg base (2) "_law_any" [] sp__law_any := ⟨⟨f41, _, _, [], [], PySem.W.mg_of X G a41, k41, B41, .nil, fun _ _ => rfl, G41⟩⟩
  have F42 := funV_mk (st := s__law_any_point) l42 c42 k42
  have B42 : Binds K _ ["_law_state_here"] [] := F42.binds (ps := ["_law_state_here"]) (fun _ _ _ _ _ _ us hl => match us, hl with | [_], _ => rfl)
  have G42 := ok__law_any_point (P := P) (w := w) (mg := mg) (base := base) F42 C__law_any
  have C__law_any_point : Cal P w K mg base (3) "_law_any_point" [] sp__law_any_point := ⟨⟨f42, _, _, [], [], PySem.W.mg_of X G a42, k42, B42, .nil, fun _ _ => rfl, G42⟩⟩
  have F43 := funV_mk (st := s__law_land_number) l43 c43 k43
  have B43 : Binds K _ ["_law_state_here"] [] := F43.binds (ps := ["_law_state_here"]) (fun _ _ _ _ _ _ us hl => match us, hl with | [_], _ => rfl)
  have G43 := ok__law_land_number (P := P) (w := w) (mg := mg) (base := base) F43 C__law_choice C__law_low
  have C__law_land_number : Cal P w K mg base (2) "_law_land_number" [] sp__law_land_number := ⟨⟨f43, _, _, [], [], PySem.W.mg_of X G a43, k43, B43, .nil, fun _ _ => rfl, G43⟩⟩
  have F44 := funV_mk (st := s__law_land_point) l44 c44 k44
  have B44 : Binds K _ ["_law_state_here"] [] := F44.binds (ps := ["_law_state_here"]) (fun _ _ _ _ _ _ us hl => match us, hl with | [_], _ => rfl)
  have G44 := ok__law_land_point (P := P) (w := w) (mg := mg) (base := base) F44 C__law_land_number
  have C__law_land_point : Cal P w K mg base (3) "_law_land_point" [] sp__law_land_point := ⟨⟨f44, _, _, [], [], PySem.W.mg_of X G a44, k44, B44, .nil, fun _ _ => rfl, G44⟩⟩
  have F45 := funV_mk (st := s__law_web) l45 c45 k45
  have B45 : Binds K _ ["_law_state_here"] [] := F45.binds (ps := ["_law_state_here"]) (fun _ _ _ _ _ _ us hl => match us, hl with | [_], _ => rfl)
  have G45 := ok__law_web (P := P) (w := w) (mg := mg) (base := base) F45 (PySem.W.mg_none_of X G z_int) (PySem.W.mg_none_of X G z_len) (PySem.W.mg_none_of X G z_range) (PySem.W.mg_none_of X G z_tuple) C__law_choice C__law_land_point
  have C__law_web : Cal P w K mg base (4) "_law_web" [] sp__law_web := ⟨⟨f45, _, _, [], [], PySem.W.mg_of X G a45, k45, B45, .nil, fun _ _ => rfl, G45⟩⟩
  have F46 := funV_mk (st := s__law_same) l46 c46 k46
  have B46 : Binds K _ ["_law_found", "_law_due"] [] := F46.binds (ps := ["_law_found", "_law_due"]) (fun _ _ _ _ _ _ us hl => match us, hl with | [_, _], _ => rfl)
  have G46 := ok__law_same (P := P) (w := w) (mg := mg) (base := base) F46 (PySem.W.mg_none_of X G z_repr)
  have C__law_same : Cal P w K mg base (1) "_law_same" [] sp__law_same := ⟨⟨f46, _, _, [], [], PySem.W.mg_of X G a46, k46, B46, .nil, fun _ _ => rfl, G46⟩⟩
  have F47 := funV_mk (st := s__law_corners) l47 c47 k47
  have B47 : Binds K _ ["_law_web_here", "_law_road"] [] := F47.binds (ps := ["_law_web_here", "_law_road"]) (fun _ _ _ _ _ _ us hl => match us, hl with | [_, _], _ => rfl)
  have G47 := ok__law_corners (P := P) (w := w) (mg := mg) (base := base) F47 (PySem.W.mg_none_of X G z_list)
  have C__law_corners : Cal P w K mg base (1) "_law_corners" [] sp__law_corners := ⟨⟨f47, _, _, [], [], PySem.W.mg_of X G a47, k47, B47, .nil, fun _ _ => rfl, G47⟩⟩
  have F48 := funV_mk (st := s__law_piece) l48 c48 k48
  have B48 : Binds K _ ["_law_one", "_law_other"] [] := F48.binds (ps := ["_law_one", "_law_other"]) (fun _ _ _ _ _ _ us hl => match us, hl with | [_, _], _ => rfl)
  have G48 := ok__law_piece (P := P) (w := w) (mg := mg) (base := base) F48 (PySem.W.mg_none_of X G z_zip) C__law_amount C__law_minus C__law_plus
  have C__law_piece : Cal P w K mg base (3) "_law_piece" [] sp__law_piece := ⟨⟨f48, _, _, [], [], PySem.W.mg_of X G a48, k48, B48, .nil, fun _ _ => rfl, G48⟩⟩
  have F49 := funV_mk (st := s__law_long) l49 c49 k49
  have B49 : Binds K _ ["_law_web_here", "_law_road"] [] := F49.binds (ps := ["_law_web_here", "_law_road"]) (fun _ _ _ _ _ _ us hl => match us, hl with | [_, _], _ => rfl)
  have G49 := ok__law_long (P := P) (w := w) (mg := mg) (base := base) F49 (PySem.W.mg_none_of X G z_zip) C__law_corners C__law_piece C__law_plus
  have C__law_long : Cal P w K mg base (4) "_law_long" [] sp__law_long := ⟨⟨f49, _, _, [], [], PySem.W.mg_of X G a49, k49, B49, .nil, fun _ _ => rfl, G49⟩⟩
  have F50 := funV_mk (st := s__law_between) l50 c50 k50
  have B50 : Binds K _ ["_law_one", "_law_other", "_law_share"] [] := F50.binds (ps := ["_law_one", "_law_other", "_law_share"]) (fun _ _ _ _ _ _ us hl => match us, hl with | [_, _, _], _ => rfl)
  have G50 := ok__law_between (P := P) (w := w) (mg := mg) (base := base) F50 (PySem.W.mg_none_of X G z_tuple) (PySem.W.mg_none_of X G z_zip) C__law_minus C__law_plus C__law_times
  have C__law_between : Cal P w K mg base (3) "_law_between" [] sp__law_between := ⟨⟨f50, _, _, [], [], PySem.W.mg_of X G a50, k50, B50, .nil, fun _ _ => rfl, G50⟩⟩
  have F51 := funV_mk (st := s__law_at) l51 c51 k51
  have B51 : Binds K _ ["_law_web_here", "_law_road", "_law_far_here"] [] := F51.binds (ps := ["_law_web_here", "_law_road", "_law_far_here"]) (fun _ _ _ _ _ _ us hl => match us, hl with | [_, _, _], _ => rfl)
  have G51 := ok__law_at (P := P) (w := w) (mg := mg) (base := base) F51 (PySem.W.mg_none_of X G z_zip) C__law_between C__law_corners C__law_less C__law_minus C__law_over C__law_piece
  have C__law_at : Cal P w K mg base (4) "_law_at" [] sp__law_at := ⟨⟨f51, _, _, [], [], PySem.W.mg_of X G a51, k51, B51, .nil, fun _ _ => rfl, G51⟩⟩
  have F52 := funV_mk (st := s__law_far) l52 c52 k52
  have B52 : Binds K _ ["_law_state_here", "_law_web_here", "_law_road"] [] := F52.binds (ps := ["_law_state_here", "_law_web_here", "_law_road"]) (fun _ _ _ _ _ _ us hl => match us, hl with | [_, _, _], _ => rfl)
  have G52 := ok__law_far (P := P) (w := w) (mg := mg) (base := base) F52 C__law_choice C__law_corners C__law_long C__law_low C__law_piece C__law_times
  have C__law_far : Cal P w K mg base (5) "_law_far" [] sp__law_far := ⟨⟨f52, _, _, [], [], PySem.W.mg_of X G a52, k52, B52, .nil, fun _ _ => rfl, G52⟩⟩
  have F53 := funV_mk (st := s__law_spot) l53 c53 k53
  have B53 : Binds K _ ["_law_state_here", "_law_web_here"] [] := F53.binds (ps := ["_law_state_here", "_law_web_here"]) (fun _ _ _ _ _ _ us hl => match us, hl with | [_, _], _ => rfl)
  have G53 := ok__law_spot (P := P) (w := w) (mg := mg) (base := base) F53 (PySem.W.mg_none_of X G z_len) C__law_choice C__law_far
  have C__law_spot : Cal P w K mg base (6) "_law_spot" [] sp__law_spot := ⟨⟨f53, _, _, [], [], PySem.W.mg_of X G a53, k53, B53, .nil, fun _ _ => rfl, G53⟩⟩
  have F54 := funV_mk (st := s__law_roads) l54 c54 k54
  have B54 : Binds K _ ["_law_state_here"] [] := F54.binds (ps := ["_law_state_here"]) (fun _ _ _ _ _ _ us hl => match us, hl with | [_], _ => rfl)
  have G54 := ok__law_roads (P := P) (w := w) (mg := mg) (base := base) F54 C__law_choice C__law_web
  have C__law_roads : Cal P w K mg base (5) "_law_roads" [] sp__law_roads := ⟨⟨f54, _, _, [], [], PySem.W.mg_of X G a54, k54, B54, .nil, fun _ _ => rfl, G54⟩⟩
  have F55 := funV_mk (st := s__law_ahead) l55 c55 k55
  have B55 : Binds K _ ["_law_one", "_law_other"] [] := F55.binds (ps := ["_law_one", "_law_other"]) (fun _ _ _ _ _ _ us hl => match us, hl with | [_, _], _ => rfl)
  have G55 := ok__law_ahead (P := P) (w := w) (mg := mg) (base := base) F55 (PySem.W.mg_none_of X G z_len) (PySem.W.mg_none_of X G z_zip) C__law_less
  have C__law_ahead : Cal P w K mg base (2) "_law_ahead" [] sp__law_ahead := ⟨⟨f55, _, _, [], [], PySem.W.mg_of X G a55, k55, B55, .nil, fun _ _ => rfl, G55⟩⟩
  have F56 := funV_mk (st := s__law_squared) l56 c56 k56
  have B56 : Binds K _ ["_law_one", "_law_other"] [] := F56.binds (ps := ["_law_one", "_law_other"]) (fun _ _ _ _ _ _ us hl => match us, hl with | [_, _], _ => rfl)
  have G56 := ok__law_squared (P := P) (w := w) (mg := mg) (base := base) F56 (PySem.W.mg_none_of X G z_zip) C__law_minus C__law_plus C__law_times
  have C__law_squared : Cal P w K mg base (3) "_law_squared" [] sp__law_squared := ⟨⟨f56, _, _, [], [], PySem.W.mg_of X G a56, k56, B56, .nil, fun _ _ => rfl, G56⟩⟩
  have F57 := funV_mk (st := s__law_part) l57 c57 k57
  have B57 : Binds K _ ["_law_one", "_law_other", "_law_point"] [] := F57.binds (ps := ["_law_one", "_law_other", "_law_point"]) (fun _ _ _ _ _ _ us hl => match us, hl with | [_, _, _], _ => rfl)
  have G57 := ok__law_part (P := P) (w := w) (mg := mg) (base := base) F57 C__law_less C__law_minus C__law_over C__law_plus C__law_squared C__law_times
  have C__law_part : Cal P w K mg base (4) "_law_part" [] sp__law_part := ⟨⟨f57, _, _, [], [], PySem.W.mg_of X G a57, k57, B57, .nil, fun _ _ => rfl, G57⟩⟩
  have F58 := funV_mk (st := s__law_near) l58 c58 k58
  have B58 : Binds K _ ["_law_web_here", "_law_point"] [] := F58.binds (ps := ["_law_web_here", "_law_point"]) (fun _ _ _ _ _ _ us hl => match us, hl with | [_, _], _ => rfl)
  have G58 := ok__law_near (P := P) (w := w) (mg := mg) (base := base) F58 (PySem.W.mg_none_of X G z_len) (PySem.W.mg_none_of X G z_range) (PySem.W.mg_none_of X G z_zip) C__law_ahead C__law_between C__law_corners C__law_part C__law_piece C__law_plus C__law_squared C__law_times
  have C__law_near : Cal P w K mg base (5) "_law_near" [] sp__law_near := ⟨⟨f58, _, _, [], [], PySem.W.mg_of X G a58, k58, B58, .nil, fun _ _ => rfl, G58⟩⟩
  have F59 := funV_mk (st := s__law_none_nearer) l59 c59 k59
  have B59 : Binds K _ ["_law_web_here", "_law_point", "_law_off"] [] := F59.binds (ps := ["_law_web_here", "_law_point", "_law_off"]) (fun _ _ _ _ _ _ us hl => match us, hl with | [_, _, _], _ => rfl)
  have G59 := ok__law_none_nearer (P := P) (w := w) (mg := mg) (base := base) F59 (PySem.W.mg_none_of X G z_len) (PySem.W.mg_none_of X G z_range) C__law_at C__law_less C__law_long C__law_low C__law_squared C__law_times
  have C__law_none_nearer : Cal P w K mg base (5) "_law_none_nearer" [] sp__law_none_nearer := ⟨⟨f59, _, _, [], [], PySem.W.mg_of X G a59, k59, B59, .nil, fun _ _ => rfl, G59⟩⟩
  have F60 := funV_mk (st := s__law_points) l60 c60 k60
  have B60 : Binds K _ ["_law_state_here", "_law_web_here"] [] := F60.binds (ps := ["_law_state_here", "_law_web_here"]) (fun _ _ _ _ _ _ us hl => match us, hl with | [_, _], _ => rfl)
  have G60 := ok__law_points (P := P) (w := w) (mg := mg) (base := base) F60 C__law_any_point C__law_at C__law_land_point C__law_spot
  have C__law_points : Cal P w K mg base (7) "_law_points" [] sp__law_points := ⟨⟨f60, _, _, [], [], PySem.W.mg_of X G a60, k60, B60, .nil, fun _ _ => rfl, G60⟩⟩
  have F61 := funV_mk (st := s_law) l61 c61 k61
  have G61 := ok_law (P := P) (w := w) (mg := mg) (base := base) F61 (PySem.W.mg_none_of X G z_len) (PySem.W.mg_none_of X G z_max) (PySem.W.mg_none_of X G z_min) (PySem.W.mg_none_of X G z_range) C__law_at C__law_near C__law_none_nearer C__law_points C__law_roads C__law_same C__law_squared C__law_state C_nearest_spot
  exact G61
  exact fun s v => .of_eq rfl
end PL
open PySem PySem.W PyProof.Rows
set_option maxHeartbeats 0 in
theorem PySem.Challenge.cw_onewhere_k28_nearest_spots_holds : PySem.Challenge.rw_onewhere_k28_nearest_spots.Holds := by
  w_on; o_law; k_head; (case hw => w_witness2)
  k_fill
  refine PL.walkG (l := PySem.Challenge.rw_onewhere_k28_nearest_spots) (n := 63) (k := 9) (x := "_law_script") (psp := fun _ => PL.sp_law) rfl (by decide) rfl ⟨rfl, by decide, by decide⟩ (fun w h Y => PySem.W.kIn_of Y) ?F (fun _ ns Q hl hq => PL.sp_law_at hl hq)
  case F =>
    intro w mg fa h KX G hmg
    refine' PL.all_mk KX G hmg ?a0 ?l0 ?c0 ?k0 ?a1 ?l1 ?c1 ?k1 ?a2 ?l2 ?c2 ?k2 ?a3 ?l3 ?c3 ?k3 ?a4 ?l4 ?c4 ?k4 ?a5 ?l5 ?c5 ?k5 ?a6 ?l6 ?c6 ?k6 ?a7 ?l7 ?c7 ?k7 ?a8 ?l8 ?c8 ?k8 ?a9 ?l9 ?c9 ?k9 ?a10 ?l10 ?c10 ?k10 ?a11 ?l11 ?c11 ?k11 ?a12 ?l12 ?c12 ?k12 ?a13 ?l13 ?c13 ?k13 ?a14 ?l14 ?c14 ?k14 ?a15 ?l15 ?c15 ?k15 ?a16 ?l16 ?c16 ?k16 ?a17 ?l17 ?c17 ?k17 ?a18 ?l18 ?c18 ?k18 ?a19 ?l19 ?c19 ?k19 ?a20 ?l20 ?c20 ?k20 ?a21 ?l21 ?c21 ?k21 ?a22 ?l22 ?c22 ?k22 ?a23 ?l23 ?c23 ?k23 ?a24 ?l24 ?c24 ?k24 ?a25 ?l25 ?c25 ?k25 ?a26 ?l26 ?c26 ?k26 ?a27 ?l27 ?c27 ?k27 ?a28 ?l28 ?c28 ?k28 ?a29 ?l29 ?c29 ?k29 ?a30 ?l30 ?c30 ?k30 ?a31 ?l31 ?c31 ?k31 ?a32 ?l32 ?c32 ?k32 ?a33 ?l33 ?c33 ?k33 ?a34 ?l34 ?c34 ?k34 ?a35 ?l35 ?c35 ?k35 ?a36 ?l36 ?c36 ?k36 ?a37 ?l37 ?c37 ?k37 ?a38 ?l38 ?c38 ?k38 ?a39 ?l39 ?c39 ?k39 ?a40 ?l40 ?c40 ?k40 ?a41 ?l41 ?c41 ?k41 ?a42 ?l42 ?c42 ?k42 ?a43 ?l43 ?c43 ?k43 ?a44 ?l44 ?c44 ?k44 ?a45 ?l45 ?c45 ?k45 ?a46 ?l46 ?c46 ?k46 ?a47 ?l47 ?c47 ?k47 ?a48 ?l48 ?c48 ?k48 ?a49 ?l49 ?c49 ?k49 ?a50 ?l50 ?c50 ?k50 ?a51 ?l51 ?c51 ?k51 ?a52 ?l52 ?c52 ?k52 ?a53 ?l53 ?c53 ?k53 ?a54 ?l54 ?c54 ?k54 ?a55 ?l55 ?c55 ?k55 ?a56 ?l56 ?c56 ?k56 ?a57 ?l57 ?c57 ?k57 ?a58 ?l58 ?c58 ?k58 ?a59 ?l59 ?c59 ?k59 ?a60 ?l60 ?c60 ?k60 ?a61 ?l61 ?c61 ?k61 ?z_abs ?z_all ?z_bool ?z_int ?z_isinstance ?z_len ?z_list ?z_max ?z_min ?z_range ?z_repr ?z_tuple ?z_zip ?g_LAND ?g_MOST_CROSSINGS ?g_MOST_MIDDLE ?g_MOST_ROADS ?g_NOUGHT ?tl_NOUGHT ?g_ONE ?tl_ONE
    case a0 => k_is
    case l0 => k_is
    case c0 => k_is
    case k0 => k_is
    case a1 => k_is
    case l1 => k_is
    case c1 => k_is
    case k1 => k_is
    case a2 => k_is
    case l2 => k_is
    case c2 => k_is
    case k2 => k_is
    case a3 => k_is
    case l3 => k_is
    case c3 => k_is
    case k3 => k_is
    case a4 => k_is
    case l4 => k_is
    case c4 => k_is
    case k4 => k_is
    case a5 => k_is
    case l5 => k_is
    case c5 => k_is
    case k5 => k_is
    case a6 => k_is
    case l6 => k_is
    case c6 => k_is
    case k6 => k_is
    case a7 => k_is
    case l7 => k_is
    case c7 => k_is
    case k7 => k_is
    case a8 => k_is
    case l8 => k_is
    case c8 => k_is
    case k8 => k_is
    case a9 => k_is
    case l9 => k_is
    case c9 => k_is
    case k9 => k_is
    case a10 => k_is
    case l10 => k_is
    case c10 => k_is
    case k10 => k_is
    case a11 => k_is
    case l11 => k_is
    case c11 => k_is
    case k11 => k_is
    case a12 => k_is
    case l12 => k_is
    case c12 => k_is
    case k12 => k_is
    case a13 => k_is
    case l13 => k_is
    case c13 => k_is
    case k13 => k_is
    case a14 => k_is
    case l14 => k_is
    case c14 => k_is
    case k14 => k_is
    case a15 => k_is
    case l15 => k_is
    case c15 => k_is
    case k15 => k_is
    case a16 => k_is
    case l16 => k_is
    case c16 => k_is
    case k16 => k_is
    case a17 => k_is
    case l17 => k_is
    case c17 => k_is
    case k17 => k_is
    case a18 => k_is
    case l18 => k_is
    case c18 => k_is
    case k18 => k_is
    case a19 => k_is
    case l19 => k_is
    case c19 => k_is
    case k19 => k_is
    case a20 => k_is
    case l20 => k_is
    case c20 => k_is
    case k20 => k_is
    case a21 => k_is
    case l21 => k_is
    case c21 => k_is
    case k21 => k_is
    case a22 => k_is
    case l22 => k_is
    case c22 => k_is
    case k22 => k_is
    case a23 => k_is
    case l23 => k_is
    case c23 => k_is
    case k23 => k_is
    case a24 => k_is
    case l24 => k_is
    case c24 => k_is
    case k24 => k_is
    case a25 => k_is
    case l25 => k_is
    case c25 => k_is
    case k25 => k_is
    case a26 => k_is
    case l26 => k_is
    case c26 => k_is
    case k26 => k_is
    case a27 => k_is
    case l27 => k_is
    case c27 => k_is
    case k27 => k_is
    case a28 => k_is
    case l28 => k_is
    case c28 => k_is
    case k28 => k_is
    case a29 => k_is
    case l29 => k_is
    case c29 => k_is
    case k29 => k_is
    case a30 => k_is
    case l30 => k_is
    case c30 => k_is
    case k30 => k_is
    case a31 => k_is
    case l31 => k_is
    case c31 => k_is
    case k31 => k_is
    case a32 => k_is
    case l32 => k_is
    case c32 => k_is
    case k32 => k_is
    case a33 => k_is
    case l33 => k_is
    case c33 => k_is
    case k33 => k_is
    case a34 => k_is
    case l34 => k_is
    case c34 => k_is
    case k34 => k_is
    case a35 => k_is
    case l35 => k_is
    case c35 => k_is
    case k35 => k_is
    case a36 => k_is
    case l36 => k_is
    case c36 => k_is
    case k36 => k_is
    case a37 => k_is
    case l37 => k_is
    case c37 => k_is
    case k37 => k_is
    case a38 => k_is
    case l38 => k_is
    case c38 => k_is
    case k38 => k_is
    case a39 => k_is
    case l39 => k_is
    case c39 => k_is
    case k39 => k_is
    case a40 => k_is
    case l40 => k_is
    case c40 => k_is
    case k40 => k_is
    case a41 => k_is
    case l41 => k_is
    case c41 => k_is
    case k41 => k_is
    case a42 => k_is
    case l42 => k_is
    case c42 => k_is
    case k42 => k_is
    case a43 => k_is
    case l43 => k_is
    case c43 => k_is
    case k43 => k_is
    case a44 => k_is
    case l44 => k_is
    case c44 => k_is
    case k44 => k_is
    case a45 => k_is
    case l45 => k_is
    case c45 => k_is
    case k45 => k_is
    case a46 => k_is
    case l46 => k_is
    case c46 => k_is
    case k46 => k_is
    case a47 => k_is
    case l47 => k_is
    case c47 => k_is
    case k47 => k_is
    case a48 => k_is
    case l48 => k_is
    case c48 => k_is
    case k48 => k_is
    case a49 => k_is
    case l49 => k_is
    case c49 => k_is
    case k49 => k_is
    case a50 => k_is
    case l50 => k_is
    case c50 => k_is
    case k50 => k_is
    case a51 => k_is
    case l51 => k_is
    case c51 => k_is
    case k51 => k_is
    case a52 => k_is
    case l52 => k_is
    case c52 => k_is
    case k52 => k_is
    case a53 => k_is
    case l53 => k_is
    case c53 => k_is
    case k53 => k_is
    case a54 => k_is
    case l54 => k_is
    case c54 => k_is
    case k54 => k_is
    case a55 => k_is
    case l55 => k_is
    case c55 => k_is
    case k55 => k_is
    case a56 => k_is
    case l56 => k_is
    case c56 => k_is
    case k56 => k_is
    case a57 => k_is
    case l57 => k_is
    case c57 => k_is
    case k57 => k_is
    case a58 => k_is
    case l58 => k_is
    case c58 => k_is
    case k58 => k_is
    case a59 => k_is
    case l59 => k_is
    case c59 => k_is
    case k59 => k_is
    case a60 => k_is
    case l60 => k_is
    case c60 => k_is
    case k60 => k_is
    case a61 => k_is
    case l61 => k_is
    case c61 => k_is
    case k61 => k_is
    case z_abs => k_is
    case z_all => k_is
    case z_bool => k_is
    case z_int => k_is
    case z_isinstance => k_is
    case z_len => k_is
    case z_list => k_is
    case z_max => k_is
    case z_min => k_is
    case z_range => k_is
    case z_repr => k_is
    case z_tuple => k_is
    case z_zip => k_is
    case g_LAND => k_is
    case g_MOST_CROSSINGS => k_is
    case g_MOST_MIDDLE => k_is
    case g_MOST_ROADS => k_is
    case g_NOUGHT => k_is
    case tl_NOUGHT => k_is
    case g_ONE => k_is
    case tl_ONE => k_is
