import PyProof.Rows.All
import Wide.All
import OpenK.AllK
import Wide.FinOn
import HandS.ForMost
import HandS.ForExc
import HandS.Wide
import HandS.IsInst
import HandS.Flow
import HandS.Sort
import HandS.Conv
import HandS.Lambda
import HandS.WideBits
import HandS.TupMul
import KE.SortData
import KE.DataCmp
import HandS.TupAny
import HandS.Deep
import HandS.RaiseMore
import PyProof.ReprRoads
import HandS.Zip
import HandS.Style
import HandS.Iter
import HandS.NoneIn
import HandS.ExcOwn
import HandS.WordsExc
import HandS.Defaults
import HandS.Text
import HandS.Replace
import HandS.StrMore
import PyProof.NoPylong
import PyProof.StrLawsRepr
import HandS.TupSets
import HandS.SetBool
import KE.KeyNested
import HandS.Dict
import HandS.DictComp
import HandS.More
import HandS.Comp
import PyProof.DictUpdate
import PySem.Challenge.RW_onewhere_k20_codes_merged_and_held
set_option Elab.async false
set_option linter.all false
set_option maxRecDepth 100000
/-! The pure layer, part 1: values, how they stand in the heap, judgements. -/
namespace PL
open PySem PySem.Spec PyProof.Rows L2

/-- a pure value: tuples, lists and dicts that nobody changes any more are told whole; ref: an object of the store, or of the written part -/
inductive Pv where
  | non | bl (b : Bool) | int (i : Int) | str (x : Str) | tup (xs : List Pv) | lst (xs : List Pv) | dct (ks vs : List Pv) | ref (a : Addr) | ty (n : String)
  /-- a list that is locked: the script, a list of the written part -/
  | scr (xs : List Pv)

/-- an object that may still be changed -/
inductive Mo where
  | lst (xs : List Pv) | dct (ks vs : List Pv)
  /-- a table of code objects of the name q -/
  | tab (q : Str)
  /-- an exception that was caught, of the class at C -/
  | exc (C : Addr)
  /-- a dict that a loop walks: its object, its pairs -/
  | lck (o : Obj) (kvs : List (Key × V))

abbrev Sto := Addr → Option Mo
/-- a test whose outcome may be open -/
def cnd (b : Bool) (p q : Prop) : Prop := match b with
  | true => p
  | false => q
theorem cnd_i {b : Bool} {p q : Prop} (h : b = true → p) (h' : b = false → q) : cnd b p q := by
  cases b with
  | true => exact h rfl
  | false => exact h' rfl
def put (S : Sto) (a : Addr) (m : Mo) : Sto := fun b => if b = a then some m else S b
def del (S : Sto) (a : Addr) : Sto := fun b => if b = a then none else S b
@[simp] theorem put_same {S : Sto} {a : Addr} {m : Mo} : put S a m a = some m := by simp [put]
@[simp] theorem del_same {S : Sto} {a : Addr} : del S a a = none := by simp [del]
theorem put_ne {S : Sto} {a b : Addr} {m : Mo} (h : b ≠ a) : put S a m b = S b := by simp [put, h]
theorem del_ne {S : Sto} {a b : Addr} (h : b ≠ a) : del S a b = S b := by simp [del, h]
@[simp] theorem put_put {S : Sto} {a : Addr} {m n : Mo} : put (put S a m) a n = put S a n := by
  funext b; simp only [put]; split <;> rfl
theorem del_put {S : Sto} {a : Addr} {m : Mo} (h : S a = none) : del (put S a m) a = S := by
  funext b; simp only [put, del]; split
  · rename_i e; rw [e, h]
  · rfl

section
variable (K : PySem.W.Frag)
mutual
def RepV (H : Hp) (S : Sto) : Pv → V → Prop
  | .non, v => v = .non
  | .bl b, v => v = .bl b
  | .int i, v => v = .int i
  | .str x, v => v = .str x
  | .tup ps, v => ∃ a vs, v = .ref a ∧ SqT K H a vs ∧ RepVs H S ps vs
  | .lst ps, v => ∃ a vs, v = .ref a ∧ H a = some (.lst vs) ∧ S a = none ∧ RepVs H S ps vs
  | .dct ks ps, v => ∃ a kvs, v = .ref a ∧ Rd H a (.dK kvs) ∧ S a = none ∧ RepVs H S ks (kvs.map fun kv => kV kv.1) ∧ RepVs H S ps (kvs.map (·.2))
  | .ref a, v => v = .ref a
  | .ty n, v => v = .ty n
  | .scr ps, v => ∃ a vs, v = .ref a ∧ ((∃ o, H a = some (.frz o (.lst vs))) ∨ SqL K (fun _ => none) a vs) ∧ RepVs H S ps vs
def RepVs (H : Hp) (S : Sto) : List Pv → List V → Prop
  | [], vs => vs = []
  | p :: ps, vs => ∃ v r, vs = v :: r ∧ RepV H S p v ∧ RepVs H S ps r
end
def RepM (H : Hp) (S : Sto) (a : Addr) : Mo → Prop
  | .lst xs => ∃ vs, H a = some (.lst vs) ∧ RepVs K H S xs vs
  | .dct ks ps => ∃ kvs, H a = some (.dK kvs) ∧ RepVs K H S ks (kvs.map fun kv => kV kv.1) ∧ RepVs K H S ps (kvs.map (·.2))
  | .tab q => LamX.TabS H a q
  | .exc C => ∃ oe, H a = some (.frz oe (.own a)) ∧ Zc (.ref C) none oe ∧ ∃ vs, oe.data = .fields vs
  | .lck o kvs => H a = some (.frz o (.dK kvs))
def RepS (H : Hp) (S : Sto) : Prop := ∀ a m, S a = some m → RepM K H S a m
end

/-- what a run of code leaves: objects that are not in the store stay; the store takes in new objects alone -/
structure Ext (S : Sto) (H : Hp) (S' : Sto) (H' : Hp) : Prop where
  keep : ∀ a o, H a = some o → S a = none → H' a = some o
  new : ∀ a, S' a ≠ none → S a ≠ none ∨ H a = none
theorem Ext.refl (S : Sto) (H : Hp) : Ext S H S H := ⟨fun _ _ h _ => h, fun _ h => .inl h⟩
theorem Ext.non {S S' : Sto} {H H' : Hp} (e : Ext S H S' H') {a : Addr} {o : HO} (h : H a = some o) (hs : S a = none) : S' a = none := by
  cases q : S' a with
  | none => rfl
  | some m =>
    rcases e.new a (by rw [q]; simp) with z | z
    · exact absurd hs z
    · rw [h] at z; cases z
theorem Ext.trans {S S1 S2 : Sto} {H H1 H2 : Hp} (a : Ext S H S1 H1) (b : Ext S1 H1 S2 H2) : Ext S H S2 H2 where
  keep := fun x o h hs => b.keep x o (a.keep x o h hs) (a.non h hs)
  new := fun x h => by
    rcases b.new x h with z | z
    · exact a.new x z
    · cases q : H x with
      | none => exact .inr rfl
      | some o =>
        left
        intro hs
        rw [a.keep x o q hs] at z
        cases z

section
variable {K : PySem.W.Frag} {H H' : Hp} {S S' : Sto}
/-- the kinds of objects that the store may hold -/
def stoU : HO → Bool
  | .lst _ => true | .dK _ => true | .tbl _ => true | .frz _ (.own _) => true | .frz _ (.dK _) => true | _ => false
theorem RepS.mut (rs : RepS K H S) {a : Addr} {m : Mo} (h : S a = some m) : ∃ u, H a = some u ∧ stoU u = true := by
  have q := rs a m h
  cases m with
  | lst xs => obtain ⟨vs, e, _⟩ := q; exact ⟨_, e, rfl⟩
  | dct ks ps => obtain ⟨kvs, e, _⟩ := q; exact ⟨_, e, rfl⟩
  | tab n => obtain ⟨ps, e, _⟩ := q; exact ⟨_, e, rfl⟩
  | exc C => obtain ⟨oe, e, _⟩ := q; exact ⟨_, e, rfl⟩
  | lck o kvs => exact ⟨_, q, rfl⟩
theorem RepS.noS (rs : RepS K H S) {a : Addr} {u : HO} (h : H a = some u) (hu : stoU u = false) : S a = none := by
  cases q : S a with
  | none => rfl
  | some m =>
    obtain ⟨v, e, z⟩ := rs.mut q
    rw [h] at e
    cases e
    rw [hu] at z
    cases z
theorem RepS.tup (rs : RepS K H S) {a : Addr} {vs : List V} (h : Rd H a (.tup vs)) : S a = none := by
  rcases h with h | ⟨o, h⟩
  · exact rs.noS h rfl
  · exact rs.noS h rfl
theorem RepS.frz (rs : RepS K H S) {a : Addr} {o : Obj} {u : HO} (h : H a = some (.frz o u)) (hu : stoU (.frz o u) = false := by rfl) : S a = none := rs.noS h hu
theorem RepS.fr (rs : RepS K H S) {a : Addr} (h : H a = none) : S a = none := by
  cases q : S a with
  | none => rfl
  | some m =>
    obtain ⟨v, e, _⟩ := rs.mut q
    rw [h] at e
    cases e
/-- a table stays one -/
theorem tab_ext (rs : RepS K H S) (e : Ext S H S' H') {a : Addr} {q : Str} (t : LamX.TabS H a q) (h : H' a = H a) : LamX.TabS H' a q := by
  obtain ⟨ps, h1, h2, h3⟩ := t
  refine ⟨ps, h.trans h1, h2, fun pos cv hc => ?_⟩
  obtain ⟨c, e1, e2⟩ := h3 pos cv hc
  exact ⟨c, e1, e.keep c _ e2 (rs.noS e2 rfl)⟩
theorem Rd.ext (e : Ext S H S' H') {a : Addr} {u : HO} (h : Rd H a u) (hs : S a = none) : Rd H' a u ∧ S' a = none := by
  rcases h with h | ⟨o, h⟩
  · exact ⟨.inl (e.keep _ _ h hs), e.non h hs⟩
  · exact ⟨.inr ⟨o, e.keep _ _ h hs⟩, e.non h hs⟩
theorem SqT.ext (rs : RepS K H S) (e : Ext S H S' H') {a : Addr} {vs : List V} (h : SqT K H a vs) : SqT K H' a vs := by
  rcases h with h | h
  · exact .inl (Rd.ext e h (rs.tup h)).1
  · exact .inr h
mutual
theorem RepV.ext (rs : RepS K H S) (e : Ext S H S' H') : ∀ (p : Pv) (v : V), RepV K H S p v → RepV K H' S' p v
  | .non, _, h => h
  | .bl _, _, h => h
  | .int _, _, h => h
  | .str _, _, h => h
  | .tup ps, _, ⟨a, vs, e1, h, r⟩ => ⟨a, vs, e1, SqT.ext rs e h, RepVs.ext rs e ps vs r⟩
  | .lst ps, _, ⟨a, vs, e1, h, hs, r⟩ => ⟨a, vs, e1, e.keep _ _ h hs, e.non h hs, RepVs.ext rs e ps vs r⟩
  | .dct ks ps, _, ⟨a, kvs, e1, h, hs, r1, r2⟩ => ⟨a, kvs, e1, (Rd.ext e h hs).1, (Rd.ext e h hs).2, RepVs.ext rs e ks _ r1, RepVs.ext rs e ps _ r2⟩
  | .ref _, _, h => h
  | .ty _, _, h => h
  | .scr ps, _, ⟨a, vs, e1, h, r⟩ => ⟨a, vs, e1, h.elim (fun ⟨o, z⟩ => .inl ⟨o, e.keep _ _ z (rs.frz z)⟩) .inr, RepVs.ext rs e ps vs r⟩
theorem RepVs.ext (rs : RepS K H S) (e : Ext S H S' H') : ∀ (ps : List Pv) (vs : List V), RepVs K H S ps vs → RepVs K H' S' ps vs
  | [], _, h => h
  | p :: ps, _, ⟨v, r, e1, h1, h2⟩ => ⟨v, r, e1, RepV.ext rs e p v h1, RepVs.ext rs e ps r h2⟩
end
theorem RepVs.len : ∀ {ps : List Pv} {vs : List V}, RepVs K H S ps vs → vs.length = ps.length
  | [], _, h => by have e : _ = [] := h; rw [e]; rfl
  | p :: ps, _, ⟨v, r, e1, h1, h2⟩ => by rw [e1, List.length_cons, List.length_cons, RepVs.len h2]
theorem RepVs.app : ∀ {ps qs : List Pv} {vs us : List V}, RepVs K H S ps vs → RepVs K H S qs us → RepVs K H S (ps ++ qs) (vs ++ us)
  | [], _, _, _, h, k => by have e : _ = [] := h; rw [e]; exact k
  | p :: ps, _, _, _, ⟨v, r, e1, h1, h2⟩, k => ⟨v, r ++ _, by rw [e1]; rfl, h1, RepVs.app h2 k⟩
theorem RepVs.get : ∀ {ps : List Pv} {vs : List V} {i : Nat} {p : Pv}, RepVs K H S ps vs → ps[i]? = some p → ∃ v, vs[i]? = some v ∧ RepV K H S p v
  | [], _, _, _, _, e => by simp at e
  | p :: ps, _, 0, q, ⟨v, r, e1, h1, h2⟩, e => by
    have e' : p = q := by simpa using e
    subst e'
    exact ⟨v, by rw [e1]; rfl, h1⟩
  | p :: ps, _, i + 1, q, ⟨v, r, e1, h1, h2⟩, e => by
    obtain ⟨u, a, b⟩ := RepVs.get (i := i) h2 (by simpa using e)
    exact ⟨u, by rw [e1]; simpa using a, b⟩
theorem RepVs.get' : ∀ {ps : List Pv} {vs : List V} {i : Nat} {v : V}, RepVs K H S ps vs → vs[i]? = some v → ∃ p, ps[i]? = some p ∧ RepV K H S p v
  | [], _, _, _, h, e => by have e0 : _ = [] := h; rw [e0] at e; simp at e
  | p :: ps, _, 0, q, ⟨v, r, e1, h1, h2⟩, e => by
    rw [e1] at e
    have e' : v = q := by simpa using e
    subst e'
    exact ⟨p, rfl, h1⟩
  | p :: ps, _, i + 1, q, ⟨v, r, e1, h1, h2⟩, e => by
    rw [e1] at e
    obtain ⟨u, a, b⟩ := RepVs.get' (i := i) h2 (by simpa using e)
    exact ⟨u, by simpa using a, b⟩
theorem RepVs.take : ∀ {ps : List Pv} {vs : List V} (n : Nat), RepVs K H S ps vs → RepVs K H S (ps.take n) (vs.take n)
  | [], _, n, h => by have e : _ = [] := h; rw [e]; simp [RepVs]
  | p :: ps, _, 0, _ => rfl
  | p :: ps, _, n + 1, ⟨v, r, e1, h1, h2⟩ => ⟨v, r.take n, by rw [e1]; rfl, h1, RepVs.take n h2⟩
theorem RepVs.drop : ∀ {ps : List Pv} {vs : List V} (n : Nat), RepVs K H S ps vs → RepVs K H S (ps.drop n) (vs.drop n)
  | [], _, n, h => by have e : _ = [] := h; rw [e]; simp [RepVs]
  | p :: ps, _, 0, h => h
  | p :: ps, _, n + 1, ⟨v, r, e1, h1, h2⟩ => by rw [e1]; exact RepVs.drop n h2
theorem RepVs.rev : ∀ {ps : List Pv} {vs : List V}, RepVs K H S ps vs → RepVs K H S ps.reverse vs.reverse
  | [], _, h => by have e : _ = [] := h; rw [e]; rfl
  | p :: ps, _, ⟨v, r, e1, h1, h2⟩ => by
    rw [e1, List.reverse_cons, List.reverse_cons]
    exact RepVs.app (RepVs.rev h2) ⟨v, [], rfl, h1, rfl⟩
theorem RepVs.set : ∀ {ps : List Pv} {vs : List V} {p : Pv} {v : V} (i : Nat), RepVs K H S ps vs → RepV K H S p v → RepVs K H S (ps.set i p) (vs.set i v)
  | [], _, _, _, _, h, _ => by have e : _ = [] := h; rw [e]; rfl
  | p :: ps, _, q, u, 0, ⟨v, r, e1, h1, h2⟩, k => ⟨u, r, by rw [e1]; rfl, k, h2⟩
  | p :: ps, _, q, u, i + 1, ⟨v, r, e1, h1, h2⟩, k => ⟨v, r.set i u, by rw [e1]; rfl, h1, RepVs.set i h2 k⟩
theorem RepVs.one {p : Pv} {vs : List V} (h : RepVs K H S [p] vs) : ∃ v, vs = [v] ∧ RepV K H S p v := by
  obtain ⟨v, r, e, h1, h2⟩ := h
  have e2 : r = [] := h2
  exact ⟨v, by rw [e, e2], h1⟩
theorem RepVs.two {p q : Pv} {vs : List V} (h : RepVs K H S [p, q] vs) : ∃ v u, vs = [v, u] ∧ RepV K H S p v ∧ RepV K H S q u := by
  obtain ⟨v, r, e, h1, h2⟩ := h
  obtain ⟨u, rfl, h3⟩ := RepVs.one h2
  exact ⟨v, u, e, h1, h3⟩
end

/-! ### the slots -/
abbrev Env' := List (Option Pv)
def RepE (K : PySem.W.Frag) (H : Hp) (S : Sto) (σ : L2.St) (ρ : Env') : Prop := σ.length = ρ.length ∧ ∀ (i : Nat) (p : Pv), ρ[i]? = some (some p) → ∃ v, σ[i]? = some (some v) ∧ RepV K H S p v
section
variable {K : PySem.W.Frag} {H H' : Hp} {S S' : Sto} {σ : L2.St} {ρ : Env'}
theorem RepE.ext (rs : RepS K H S) (e : Ext S H S' H') (r : RepE K H S σ ρ) : RepE K H' S' σ ρ := ⟨r.1, fun i p h => by
  obtain ⟨v, a, b⟩ := r.2 i p h
  exact ⟨v, a, RepV.ext rs e p v b⟩⟩
theorem RepE.set (r : RepE K H S σ ρ) {p : Pv} {v : V} (i : Nat) (h : RepV K H S p v) : RepE K H S (σ.set i (some v)) (ρ.set i (some p)) := by
  refine ⟨by simpa using r.1, fun j q e => ?_⟩
  by_cases hj : i = j
  · subst hj
    rw [List.getElem?_set] at e
    simp only [if_true] at e
    split at e
    · rename_i hl
      cases e
      refine ⟨v, ?_, h⟩
      rw [List.getElem?_set_self (by rw [r.1]; exact hl)]
    · cases e
  · rw [List.getElem?_set_ne hj] at e
    obtain ⟨u, a, b⟩ := r.2 j q e
    exact ⟨u, by rw [List.getElem?_set_ne hj]; exact a, b⟩
end

/-! ### readings over pure values -/
abbrev QV := Pv → Sto → Prop
abbrev PF := Env' → Sto → QV → Prop
abbrev PFs := Env' → Sto → (List Pv → Sto → Prop) → Prop
abbrev PFB := Env' → Sto → (Bool → Sto → Prop) → Prop
structure Ends' where
  nx : Env' → Sto → Prop
  rt : Pv → Sto → Prop
  bk : Env' → Sto → Prop := fun _ _ => False
  ct : Env' → Sto → Prop := fun _ _ => False
abbrev PFS := Ends' → Env' → Sto → Prop
def Ends'.le (D D' : Ends') : Prop := (∀ r s, D.nx r s → D'.nx r s) ∧ (∀ p s, D.rt p s → D'.rt p s) ∧ (∀ r s, D.bk r s → D'.bk r s) ∧ ∀ r s, D.ct r s → D'.ct r s
theorem Ends'.le.refl (D : Ends') : D.le D := ⟨fun _ _ h => h, fun _ _ h => h, fun _ _ h => h, fun _ _ h => h⟩

def lift (K : PySem.W.Frag) (S0 : Sto) (H0 : Hp) (f : PF) : TE := fun σ H Q => ∃ ρ S, RepE K H S σ ρ ∧ RepS K H S ∧ Ext S0 H0 S H ∧
  f ρ S fun p S' => ∀ v H', RepV K H' S' p v → RepS K H' S' → Ext S H S' H' → Q v H'
def liftA (K : PySem.W.Frag) (S0 : Sto) (H0 : Hp) (f : PFs) : TA := fun σ H Q => ∃ ρ S, RepE K H S σ ρ ∧ RepS K H S ∧ Ext S0 H0 S H ∧
  f ρ S fun ps S' => ∀ vs H', RepVs K H' S' ps vs → RepS K H' S' → Ext S H S' H' → Q vs H'
def liftB (K : PySem.W.Frag) (S0 : Sto) (H0 : Hp) (f : PFB) : TT := fun σ H Q => ∃ ρ S, RepE K H S σ ρ ∧ RepS K H S ∧ Ext S0 H0 S H ∧
  f ρ S fun b S' => ∀ H', RepS K H' S' → Ext S H S' H' → Q b H'
def lE (K : PySem.W.Frag) (S : Sto) (H : Hp) (D : Ends) : Ends' :=
  { nx := fun ρ' S' => ∀ σ' H', RepE K H' S' σ' ρ' → RepS K H' S' → Ext S H S' H' → D.nx σ' H'
    rt := fun p S' => ∀ v H', RepV K H' S' p v → RepS K H' S' → Ext S H S' H' → D.rt v H'
    bk := fun ρ' S' => ∀ σ' H', RepE K H' S' σ' ρ' → RepS K H' S' → Ext S H S' H' → D.bk σ' H'
    ct := fun ρ' S' => ∀ σ' H', RepE K H' S' σ' ρ' → RepS K H' S' → Ext S H S' H' → D.ct σ' H' }
theorem lE_le {K : PySem.W.Frag} {S S1 : Sto} {H H1 : Hp} {D : Ends} (e : Ext S H S1 H1) : (lE K S H D).le (lE K S1 H1 D) :=
  ⟨fun _ _ q σ' H' a1 a2 a3 => q σ' H' a1 a2 (e.trans a3), fun _ _ q v H' a1 a2 a3 => q v H' a1 a2 (e.trans a3), fun _ _ q σ' H' a1 a2 a3 => q σ' H' a1 a2 (e.trans a3), fun _ _ q σ' H' a1 a2 a3 => q σ' H' a1 a2 (e.trans a3)⟩
def liftS (K : PySem.W.Frag) (S0 : Sto) (H0 : Hp) (g : PFS) : TS := fun D σ H => ∃ ρ S, RepE K H S σ ρ ∧ RepS K H S ∧ Ext S0 H0 S H ∧ g (lE K S H D) ρ S

structure PV (X : Cx) (S0 : Sto) (H0 : Hp) (e : Expr) (f : PF) : Prop where
  mono : ∀ ρ S Q Q', (∀ p S', Q p S' → Q' p S') → f ρ S Q → f ρ S Q'
  pe : PE X e (lift X.K S0 H0 f)
structure PVs (X : Cx) (S0 : Sto) (H0 : Hp) (es : List Expr) (f : PFs) : Prop where
  mono : ∀ ρ S Q Q', (∀ p S', Q p S' → Q' p S') → f ρ S Q → f ρ S Q'
  pa : PA X es (liftA X.K S0 H0 f)
structure PB (X : Cx) (S0 : Sto) (H0 : Hp) (e : Expr) (f : PFB) : Prop where
  mono : ∀ ρ S Q Q', (∀ p S', Q p S' → Q' p S') → f ρ S Q → f ρ S Q'
  pt : PT X e (liftB X.K S0 H0 f)
/-- .. whatever its whole is -/
structure PBw (X : Cx) (S0 : Sto) (H0 : Hp) (e : Expr) (f : PFB) : Prop where
  mono : ∀ ρ S Q Q', (∀ p S', Q p S' → Q' p S') → f ρ S Q → f ρ S Q'
  pw : PW X e (liftB X.K S0 H0 f)
structure PZ (X : Cx) (S0 : Sto) (H0 : Hp) (st : Stmt) (g : PFS) : Prop where
  mono : ∀ D D' ρ S, D.le D' → g D ρ S → g D' ρ S
  ps : PS X st (liftS X.K S0 H0 g)
structure PZs (X : Cx) (S0 : Sto) (H0 : Hp) (st : List Stmt) (g : PFS) : Prop where
  mono : ∀ D D' ρ S, D.le D' → g D ρ S → g D' ρ S
  pss : PSs X st (liftS X.K S0 H0 g)

theorem PE.imp {X : Cx} {e : Expr} {t t' : TE} (h : PE X e t) (i : ∀ σ H Q, t' σ H Q → t σ H Q) : PE X e t' := ⟨fun pins s σ H Q I q => h.run pins s σ H Q I (i σ H Q q)⟩
theorem PT.imp {X : Cx} {e : Expr} {t t' : TT} (h : PT X e t) (i : ∀ σ H Q, t' σ H Q → t σ H Q) : PT X e t' := ⟨fun pins s σ H Q I q => h.run pins s σ H Q I (i σ H Q q)⟩
theorem PW.imp {X : Cx} {e : Expr} {t t' : TT} (h : PW X e t) (i : ∀ σ H Q, t' σ H Q → t σ H Q) : PW X e t' := ⟨fun wh pins s σ H Q I q => h.run wh pins s σ H Q I (i σ H Q q)⟩
theorem PA.imp {X : Cx} {e : List Expr} {t t' : TA} (h : PA X e t) (i : ∀ σ H Q, t' σ H Q → t σ H Q) : PA X e t' := ⟨fun pos pins s σ H Q I q => h.run pos pins s σ H Q I (i σ H Q q)⟩
theorem PS.imp {X : Cx} {e : Stmt} {t t' : TS} (h : PS X e t) (i : ∀ D σ H, t' D σ H → t D σ H) : PS X e t' := ⟨fun pins s σ H D I q => h.run pins s σ H D I (i D σ H q)⟩
theorem PSs.imp {X : Cx} {e : List Stmt} {t t' : TS} (h : PSs X e t) (i : ∀ D σ H, t' D σ H → t D σ H) : PSs X e t' := ⟨fun pins s σ H D I q => h.run pins s σ H D I (i D σ H q)⟩

section
variable {X : Cx} {S0 : Sto} {H0 : Hp}

/-! ### names, constants -/
def fVar (i : Nat) : PF := fun ρ S Q => match ρ[i]? with | some (some p) => Q p S | _ => False
def fC (p : Pv) : PF := fun _ S Q => Q p S
theorem pv_var (i : Nat) {x : Str} {pos : Pos} (hN : X.N[i]? = some x := by rfl) (hv : Vis X.env.scope x := by first | exact Or.inl rfl | exact Or.inr (Or.inl rfl) | exact Or.inr (Or.inr rfl)) (hd : (x == ("__debug__" : Str)) = false := by decide)
    (hcd : (x == ("__classdict__" : Str)) = false := by decide) : PV X S0 H0 (.Name x pos) (fVar i) := by
  refine ⟨fun ρ S Q Q' h q => ?_, PE.imp (pe_var hN hv hd hcd) fun σ H Q ⟨ρ, S, re, rs, ex, q⟩ => ?_⟩
  · unfold fVar at q ⊢
    split
    · rename_i p e; rw [e] at q; exact h _ _ q
    · rename_i e; split at q
      · rename_i p e'; exact (e p e').elim
      · exact q
  · unfold fVar at q
    split at q
    · rename_i p e
      obtain ⟨v, a, b⟩ := re.2 i p e
      exact ⟨v, a, q v H b rs (Ext.refl S H)⟩
    · exact q.elim
theorem PV.const {e : Expr} {v : V} {p : Pv} (h : PE X e (tC v)) (r : ∀ H S, RepV X.K H S p v) : PV X S0 H0 e (fC p) :=
  ⟨fun _ _ _ _ h q => h _ _ q, PE.imp h fun _ H Q ⟨_, S, _, rs, _, q⟩ => q v H (r H S) rs (Ext.refl S H)⟩
theorem pv_int {i j pos} : PV X S0 H0 (.Constant (.int i) j pos) (fC (.int i)) := PV.const pe_int fun _ _ => rfl
theorem pv_bl {b j pos} : PV X S0 H0 (.Constant (.bool b) j pos) (fC (.bl b)) := PV.const pe_bl fun _ _ => rfl
theorem pv_non {j pos} : PV X S0 H0 (.Constant .none j pos) (fC .non) := PV.const pe_non fun _ _ => rfl
theorem pv_str {x j pos} : PV X S0 H0 (.Constant (.str x) j pos) (fC (.str x)) := PV.const pe_str fun _ _ => rfl
/-- a name of the module; the reading of its value in the written part -/
def KRep (K : PySem.W.Frag) (p : Pv) (u : Value) : Prop := ∃ v, RelV v u ∧ ∀ H S, RepV K H S p v
theorem pv_glob {x : Str} {p : Pv} {u : Value} {pos : Pos} (hg : Gl X x) (hm : X.mg x = some u) (r : KRep X.K p u) (hd : (x == ("__debug__" : Str)) = false := by decide) : PV X S0 H0 (.Name x pos) (fC p) := by
  obtain ⟨v, r1, r2⟩ := r
  exact PV.const (pe_glob hg hm r1 hd) r2
theorem pv_bltn {x : Str} {T : String} {pos : Pos} (hg : Gl X x) (hm : X.mg x = none) (hv : bootBuiltins x = some (.type T)) (hn : x ≠ "__name__" := by decide) (hd : (x == ("__debug__" : Str)) = false := by decide) : PV X S0 H0 (.Name x pos) (fC (.ty T)) :=
  PV.const (pe_bltn (v := .ty T) hg hm hv rfl hn hd) fun _ _ => rfl

/-! ### lists of expressions -/
def fNil : PFs := fun _ S Q => Q [] S
def fCons (f : PF) (g : PFs) : PFs := fun ρ S Q => f ρ S fun p S1 => g ρ S1 fun ps S2 => Q (p :: ps) S2
theorem pvs_nil : PVs X S0 H0 [] fNil := ⟨fun _ _ _ _ h q => h _ _ q, PA.imp pa_nil fun _ H Q ⟨_, S, _, rs, _, q⟩ => q [] H rfl rs (Ext.refl S H)⟩
theorem pvs_cons {e : Expr} {es : List Expr} {f : PF} {g : PFs} (h1 : PV X S0 H0 e f) (h2 : PVs X S0 H0 es g) (hs : starEach (e :: es) X.env = (false, eval e X.env) :: starEach es X.env := by rfl) : PVs X S0 H0 (e :: es) (fCons f g) := by
  refine ⟨fun ρ S Q Q' h q => h1.mono _ _ _ _ (fun p S1 q => h2.mono _ _ _ _ (fun ps S2 q => h _ _ q) q) q, PA.imp (pa_cons h1.pe h2.pa hs) fun σ H Q ⟨ρ, S, re, rs, ex, q⟩ => ?_⟩
  refine ⟨ρ, S, re, rs, ex, h1.mono _ _ _ _ (fun p S1 q v H1 rv rs1 ex1 => ?_) q⟩
  refine ⟨ρ, S1, re.ext rs ex1, rs1, ex.trans ex1, h2.mono _ _ _ _ (fun ps S2 q vs H2 rvs rs2 ex2 => ?_) q⟩
  exact q (v :: vs) H2 ⟨v, vs, rfl, RepV.ext rs1 ex2 p v rv, rvs⟩ rs2 (ex1.trans ex2)

/-! ### operations by values -/
abbrev O1 := Pv → Sto → QV → Prop
abbrev O2 := Pv → Pv → Sto → QV → Prop
abbrev On := List Pv → Sto → QV → Prop
structure Sim1 (K : PySem.W.Frag) (r : V → Hp → VK → Prop) (o : O1) : Prop where
  mono : ∀ x S Q Q', (∀ p S', Q p S' → Q' p S') → o x S Q → o x S Q'
  run : ∀ x S Qp v H Q, RepV K H S x v → RepS K H S → o x S Qp → (∀ p S' z H', Qp p S' → RepV K H' S' p z → RepS K H' S' → Ext S H S' H' → Q z H') → r v H Q
structure Sim2 (K : PySem.W.Frag) (r : R2) (o : O2) : Prop where
  mono : ∀ x y S Q Q', (∀ p S', Q p S' → Q' p S') → o x y S Q → o x y S Q'
  run : ∀ x y S Qp v u H Q, RepV K H S x v → RepV K H S y u → RepS K H S → o x y S Qp → (∀ p S' z H', Qp p S' → RepV K H' S' p z → RepS K H' S' → Ext S H S' H' → Q z H') → r v u H Q
structure SimN (K : PySem.W.Frag) (r : List V → Hp → VK → Prop) (o : On) : Prop where
  mono : ∀ x S Q Q', (∀ p S', Q p S' → Q' p S') → o x S Q → o x S Q'
  run : ∀ x S Qp v H Q, RepVs K H S x v → RepS K H S → o x S Qp → (∀ p S' z H', Qp p S' → RepV K H' S' p z → RepS K H' S' → Ext S H S' H' → Q z H') → r v H Q

def f1 (o : O1) (f : PF) : PF := fun ρ S Q => f ρ S fun p S1 => o p S1 Q
def f2 (o : O2) (f g : PF) : PF := fun ρ S Q => f ρ S fun p S1 => g ρ S1 fun q S2 => o p q S2 Q
def fN (o : On) (f : PFs) : PF := fun ρ S Q => f ρ S fun ps S1 => o ps S1 Q
variable {a b : Expr} {fa fb : PF} {pos : Pos}
theorem lift1 {r : V → Hp → VK → Prop} {o : O1} (s : Sim1 X.K r o) (ha : PV X S0 H0 a fa) {σ : L2.St} {H : Hp} {Q : VK} (h : lift X.K S0 H0 (f1 o fa) σ H Q) : lift X.K S0 H0 fa σ H fun v H1 => r v H1 Q := by
  obtain ⟨ρ, S, re, rs, ex, q⟩ := h
  refine ⟨ρ, S, re, rs, ex, ha.mono _ _ _ _ (fun p S1 q v H1 rv rs1 ex1 => ?_) q⟩
  exact s.run p S1 _ v H1 Q rv rs1 q fun p' S' z H' q rz rs' ex' => q z H' rz rs' (ex1.trans ex')
theorem lift2 {r : R2} {o : O2} (s : Sim2 X.K r o) (ha : PV X S0 H0 a fa) (hb : PV X S0 H0 b fb) {σ : L2.St} {H : Hp} {Q : VK} (h : lift X.K S0 H0 (f2 o fa fb) σ H Q) :
    lift X.K S0 H0 fa σ H fun v H1 => lift X.K S0 H0 fb σ H1 fun u H2 => r v u H2 Q := by
  obtain ⟨ρ, S, re, rs, ex, q⟩ := h
  refine ⟨ρ, S, re, rs, ex, ha.mono _ _ _ _ (fun p S1 q v H1 rv rs1 ex1 => ?_) q⟩
  refine ⟨ρ, S1, re.ext rs ex1, rs1, ex.trans ex1, hb.mono _ _ _ _ (fun p' S2 q u H2 ru rs2 ex2 => ?_) q⟩
  exact s.run p p' S2 _ v u H2 Q (RepV.ext rs1 ex2 p v rv) ru rs2 q fun p' S' z H' q rz rs' ex' => q z H' rz rs' ((ex1.trans ex2).trans ex')
theorem liftN {es : List Expr} {fs : PFs} {r : List V → Hp → VK → Prop} {o : On} (s : SimN X.K r o) (ha : PVs X S0 H0 es fs) {σ : L2.St} {H : Hp} {Q : VK} (h : lift X.K S0 H0 (fN o fs) σ H Q) : liftA X.K S0 H0 fs σ H fun v H1 => r v H1 Q := by
  obtain ⟨ρ, S, re, rs, ex, q⟩ := h
  refine ⟨ρ, S, re, rs, ex, ha.mono _ _ _ _ (fun p S1 q v H1 rv rs1 ex1 => ?_) q⟩
  exact s.run p S1 _ v H1 Q rv rs1 q fun p' S' z H' q rz rs' ex' => q z H' rz rs' (ex1.trans ex')
theorem f1_mono {o : O1} (m : ∀ x S Q Q', (∀ p S', Q p S' → Q' p S') → o x S Q → o x S Q') (ha : PV X S0 H0 a fa) : ∀ ρ S Q Q', (∀ p S', Q p S' → Q' p S') → f1 o fa ρ S Q → f1 o fa ρ S Q' :=
  fun ρ S Q Q' h q => ha.mono _ _ _ _ (fun p S1 q => m _ _ _ _ h q) q
theorem f2_mono {o : O2} (m : ∀ x y S Q Q', (∀ p S', Q p S' → Q' p S') → o x y S Q → o x y S Q') (ha : PV X S0 H0 a fa) (hb : PV X S0 H0 b fb) : ∀ ρ S Q Q', (∀ p S', Q p S' → Q' p S') → f2 o fa fb ρ S Q → f2 o fa fb ρ S Q' :=
  fun ρ S Q Q' h q => ha.mono _ _ _ _ (fun p S1 q => hb.mono _ _ _ _ (fun p S2 q => m _ _ _ _ _ h q) q) q
theorem fN_mono {es : List Expr} {fs : PFs} {o : On} (m : ∀ x S Q Q', (∀ p S', Q p S' → Q' p S') → o x S Q → o x S Q') (ha : PVs X S0 H0 es fs) : ∀ ρ S Q Q', (∀ p S', Q p S' → Q' p S') → fN o fs ρ S Q → fN o fs ρ S Q' :=
  fun ρ S Q Q' h q => ha.mono _ _ _ _ (fun p S1 q => m _ _ _ _ h q) q

theorem pv_op {op : Operator} {r : R2} {o : O2} (ho : OpR X (binaryOp op) r) (s : Sim2 X.K r o) (ha : PV X S0 H0 a fa) (hb : PV X S0 H0 b fb) : PV X S0 H0 (.BinOp a op b pos) (f2 o fa fb) :=
  ⟨f2_mono s.mono ha hb, PE.imp (pe_op ho ha.pe hb.pe) fun _ _ _ h => lift2 s ha hb h⟩
theorem pv_un {op : UnaryOp} {r : V → Hp → VK → Prop} {o : O1} (ho : UnR X (unaryOp op) r) (s : Sim1 X.K r o) (ha : PV X S0 H0 a fa) : PV X S0 H0 (.UnaryOp op a pos) (f1 o fa) :=
  ⟨f1_mono s.mono ha, PE.imp (pe_un ho ha.pe) fun _ _ _ h => lift1 s ha h⟩
theorem pv_cmp {op : CmpOp} {r : R2} {o : O2} (ho : OpR X (compareOp op) r) (s : Sim2 X.K r o) (ha : PV X S0 H0 a fa) (hb : PV X S0 H0 b fb) (hm : behindInMarks op b = false) : PV X S0 H0 (.Compare a [op] [b] pos) (f2 o fa fb) :=
  ⟨f2_mono s.mono ha hb, PE.imp (pe_cmpR ho ha.pe hb.pe hm) fun _ _ _ h => lift2 s ha hb h⟩
theorem OpR.or {f : Value → Value → Sem Value} {r r' : R2} (h : OpR X f r) (h' : OpR X f r') : OpR X f (fun x y H Q => r x y H Q ∨ r' x y H Q) := fun pins s σ H x y v u Q I rx ry q =>
  q.elim (fun q => h pins s σ H x y v u Q I rx ry q) fun q => h' pins s σ H x y v u Q I rx ry q
theorem UnR.or {f : Value → Sem Value} {r r' : V → Hp → VK → Prop} (h : UnR X f r) (h' : UnR X f r') : UnR X f (fun x H Q => r x H Q ∨ r' x H Q) := fun pins s σ H x v Q I rx q =>
  q.elim (fun q => h pins s σ H x v Q I rx q) fun q => h' pins s σ H x v Q I rx q
theorem CallR.or {f : Value} {r r' : List V → Hp → VK → Prop} (h : CallR X f r) (h' : CallR X f r') : CallR X f (fun x H Q => r x H Q ∨ r' x H Q) := fun pins s σ H x v Q I rx q =>
  q.elim (fun q => h pins s σ H x v Q I rx q) fun q => h' pins s σ H x v Q I rx q
/-- a built-in function, a built-in type, called by its name -/
theorem pv_callB {x : Str} {p : Pos} {e : Expr} {es : List Expr} {fs : PFs} {id : String} {r : List V → Hp → VK → Prop} {o : On} (hc : CallR X (.builtin id) r) (s : SimN X.K r o) (hg : Gl X x) (hm : X.mg x = none) (hv : bootBuiltins x = some (.builtin id)) (ha : PVs X S0 H0 (e :: es) fs) (hn : x ≠ "__name__" := by decide) (hdb : (x == ("__debug__" : Str)) = false := by decide)
    (he : starEach (e :: es) X.env = (false, eval e X.env) :: starEach es X.env := by rfl) (hpl : (backTo pos (starEach es X.env)).any (·.1) = false := by rfl) : PV X S0 H0 (.Call (.Name x p) (e :: es) [] pos) (fN o fs) :=
  ⟨fN_mono s.mono ha, PE.imp (pe_callB hc hg hm hv ha.pa hn hdb he hpl) fun _ _ _ h => liftN s ha h⟩
theorem pv_callTy {x : Str} {p : Pos} {e : Expr} {es : List Expr} {fs : PFs} {T : String} {r : List V → Hp → VK → Prop} {o : On} (hc : CallR X (.type T) r) (s : SimN X.K r o) (hg : Gl X x) (hm : X.mg x = none) (hv : bootBuiltins x = some (.type T)) (ha : PVs X S0 H0 (e :: es) fs) (hn : x ≠ "__name__" := by decide) (hdb : (x == ("__debug__" : Str)) = false := by decide)
    (he : starEach (e :: es) X.env = (false, eval e X.env) :: starEach es X.env := by rfl) (hpl : (backTo pos (starEach es X.env)).any (·.1) = false := by rfl) : PV X S0 H0 (.Call (.Name x p) (e :: es) [] pos) (fN o fs) :=
  ⟨fN_mono s.mono ha, PE.imp (pe_callTy hc hg hm hv ha.pa hn hdb he hpl) fun _ _ _ h => liftN s ha h⟩

/-! ### tuples, lists -/
theorem Ext.newT {K : PySem.W.Frag} {S : Sto} {H : Hp} {p : Addr} {o : HO} (h : H p = none) : Ext S H S (upd H p o) :=
  ⟨fun a u ha _ => by rw [upd_ne (ne_of_none ha h)]; exact ha, fun _ h => .inl h⟩
theorem RepS.ext' {K : PySem.W.Frag} {S : Sto} {H H' : Hp} (rs : RepS K H S) (e : Ext S H S H') (hk : ∀ a m, S a = some m → H' a = H a) : RepS K H' S := fun a m h => by
  have q := rs a m h
  cases m with
  | lst xs => obtain ⟨vs, e1, r⟩ := q; exact ⟨vs, (hk a _ h).trans e1, RepVs.ext rs e _ _ r⟩
  | dct ks ps => obtain ⟨vs, e1, r, r'⟩ := q; exact ⟨vs, (hk a _ h).trans e1, RepVs.ext rs e _ _ r, RepVs.ext rs e _ _ r'⟩
  | tab n => exact tab_ext rs e q (hk a _ h)
  | exc C => obtain ⟨oe, e1, r⟩ := q; exact ⟨oe, (hk a _ h).trans e1, r⟩
  | lck o kvs => exact (hk a _ h).trans q
theorem RepS.newT {K : PySem.W.Frag} {S : Sto} {H : Hp} {p : Addr} {o : HO} (rs : RepS K H S) (h : H p = none) : RepS K (upd H p o) S :=
  rs.ext' (Ext.newT (K := K) h) fun a m ha => upd_ne (by rintro rfl; rw [rs.fr h] at ha; cases ha)
def oTup : On := fun ps S Q => ps.length ≤ sizeLine ∧ Q (.tup ps) S
def oLst : On := fun ps S Q => ps.length ≤ sizeLine ∧ Q (.lst ps) S
/-- a list that is to be changed -/
def oLstT : On := fun ps S Q => ps.length ≤ sizeLine ∧ ∀ a, S a = none → Q (.ref a) (put S a (.lst ps))
theorem pv_tup {es : List Expr} {fs : PFs} {k : Nat} (h : PVs X S0 H0 es fs) : PV X S0 H0 (.Tuple es k pos) (fN oTup fs) := by
  refine ⟨fN_mono (fun _ _ _ _ h q => ⟨q.1, h _ _ q.2⟩) h, PE.imp (pe_tup h.pa) fun σ H Q ⟨ρ, S, re, rs, ex, q⟩ => ?_⟩
  refine ⟨ρ, S, re, rs, ex, h.mono _ _ _ _ (fun ps S1 q vs H1 rv rs1 ex1 => ⟨by rw [rv.len]; exact q.1, fun p np => ?_⟩) q⟩
  have e := Ext.newT (K := X.K) (S := S1) (o := .tup vs) np
  exact q.2 (.ref p) _ ⟨p, vs, rfl, .inl (.inl upd_same), RepVs.ext rs1 e _ _ rv⟩ (rs1.newT np) (ex1.trans e)
theorem pv_lst {es : List Expr} {fs : PFs} (h : PVs X S0 H0 es fs) : PV X S0 H0 (.List es pos) (fN oLst fs) := by
  refine ⟨fN_mono (fun _ _ _ _ h q => ⟨q.1, h _ _ q.2⟩) h, PE.imp (pe_lst h.pa) fun σ H Q ⟨ρ, S, re, rs, ex, q⟩ => ?_⟩
  refine ⟨ρ, S, re, rs, ex, h.mono _ _ _ _ (fun ps S1 q vs H1 rv rs1 ex1 => ⟨by rw [rv.len]; exact q.1, fun p np => ?_⟩) q⟩
  have e := Ext.newT (K := X.K) (S := S1) (o := .lst vs) np
  exact q.2 (.ref p) _ ⟨p, vs, rfl, upd_same, rs1.fr np, RepVs.ext rs1 e _ _ rv⟩ (rs1.newT np) (ex1.trans e)
/-- a new object goes into the store -/
theorem Ext.newS {S : Sto} {H : Hp} {p : Addr} {o : HO} {m : Mo} (h : H p = none) : Ext S H (put S p m) (upd H p o) :=
  ⟨fun a u ha _ => by rw [upd_ne (ne_of_none ha h)]; exact ha, fun a ha => by
    by_cases e : a = p
    · subst e; exact .inr h
    · rw [put_ne e] at ha; exact .inl ha⟩
theorem RepS.newL {K : PySem.W.Frag} {S : Sto} {H : Hp} {p : Addr} {vs : List V} {ps : List Pv} (rs : RepS K H S) (h : H p = none) (rv : RepVs K H S ps vs) : RepS K (upd H p (.lst vs)) (put S p (.lst ps)) := fun a m ha => by
  have e := Ext.newS (S := S) (o := .lst vs) (m := .lst ps) h
  by_cases z : a = p
  · subst z
    rw [put_same] at ha; cases ha
    exact ⟨vs, upd_same, RepVs.ext rs e _ _ rv⟩
  · rw [put_ne z] at ha
    have q := rs a m ha
    cases m with
    | lst xs => obtain ⟨us, e1, r⟩ := q; exact ⟨us, by rw [upd_ne z]; exact e1, RepVs.ext rs e _ _ r⟩
    | dct ks xs => obtain ⟨us, e1, r, r'⟩ := q; exact ⟨us, by rw [upd_ne z]; exact e1, RepVs.ext rs e _ _ r, RepVs.ext rs e _ _ r'⟩
    | tab n => exact tab_ext rs e q (by rw [upd_ne z])
    | exc C => obtain ⟨oe, e1, r⟩ := q; exact ⟨oe, by rw [upd_ne z]; exact e1, r⟩
    | lck o kvs => exact (upd_ne z).trans q
theorem pv_lstT {es : List Expr} {fs : PFs} (h : PVs X S0 H0 es fs) : PV X S0 H0 (.List es pos) (fN oLstT fs) := by
  refine ⟨fN_mono (fun _ _ _ _ h q => ⟨q.1, fun a ha => h _ _ (q.2 a ha)⟩) h, PE.imp (pe_lst h.pa) fun σ H Q ⟨ρ, S, re, rs, ex, q⟩ => ?_⟩
  refine ⟨ρ, S, re, rs, ex, h.mono _ _ _ _ (fun ps S1 q vs H1 rv rs1 ex1 => ⟨by rw [rv.len]; exact q.1, fun p np => ?_⟩) q⟩
  exact q.2 p (rs1.fr np) (.ref p) _ rfl (rs1.newL np rv) (ex1.trans (Ext.newS np))

/-! ### tests -/
def fBV (f : PF) : PFB := fun ρ S Q => f ρ S fun p S1 => match p with | .bl b => Q b S1 | _ => False
theorem fBV_mono {e : Expr} {f : PF} (h : PV X S0 H0 e f) : ∀ ρ S Q Q', (∀ p S', Q p S' → Q' p S') → fBV f ρ S Q → fBV f ρ S Q' := fun ρ S Q Q' i q => h.mono _ _ _ _ (fun p S1 q => by
  cases p <;> first | exact i _ _ q | exact q) q
theorem liftBV {e : Expr} {f : PF} (h : PV X S0 H0 e f) {σ : L2.St} {H : Hp} {Q : Bool → Hp → Prop} (q : liftB X.K S0 H0 (fBV f) σ H Q) : tB (lift X.K S0 H0 f) σ H Q := by
  obtain ⟨ρ, S, re, rs, ex, q⟩ := q
  refine ⟨ρ, S, re, rs, ex, h.mono _ _ _ _ (fun p S1 q v H1 rv rs1 ex1 => ?_) q⟩
  cases p with
  | bl b => exact ⟨b, rv, q H1 rs1 ex1⟩
  | _ => exact q.elim
/-- an expression whose value is a truth, as a test (a call, a name) -/
theorem pb_val {e : Expr} {f : PF} (h : PV X S0 H0 e f) (he : ∀ whole, isTrue e X.env whole = (do let v ← whole; standAt e.pos; holding [v] (truthy v)) := by intro _; rfl) : PB X S0 H0 e (fBV f) :=
  ⟨fBV_mono h, PT.imp (pt_val h.pe he) fun _ _ _ q => liftBV h q⟩
theorem pb_cmp {op : CmpOp} {r : R2} {o : O2} (ho : OpR X (compareOp op) r) (s : Sim2 X.K r o) (ha : PV X S0 H0 a fa) (hb : PV X S0 H0 b fb) (hm : behindInMarks op b = false) : PB X S0 H0 (.Compare a [op] [b] pos) (fBV (f2 o fa fb)) := by
  have h := pv_cmp (pos := pos) ho s ha hb hm
  refine ⟨fBV_mono h, PT.imp (pt_cmpR ho ha.pe hb.pe hm) fun σ H Q q => ?_⟩
  obtain ⟨ρ, S, re, rs, ex, q⟩ := q
  refine ⟨ρ, S, re, rs, ex, ha.mono _ _ _ _ (fun p S1 q v H1 rv rs1 ex1 => ?_) q⟩
  refine ⟨ρ, S1, re.ext rs ex1, rs1, ex.trans ex1, hb.mono _ _ _ _ (fun p' S2 q u H2 ru rs2 ex2 => ?_) q⟩
  refine s.run p p' S2 _ v u H2 _ (RepV.ext rs1 ex2 p v rv) ru rs2 q fun p' S' z H' q rz rs' ex' => ?_
  cases p' with
  | bl c => exact ⟨c, rz, q H' rs' ((ex1.trans ex2).trans ex')⟩
  | _ => exact q.elim
def fNot (f : PFB) : PFB := fun ρ S Q => f ρ S fun b S1 => Q (!b) S1
def fAnd (f g : PFB) : PFB := fun ρ S Q => f ρ S fun b S1 => cnd b (g ρ S1 Q) (Q false S1)
def fOr (f g : PFB) : PFB := fun ρ S Q => f ρ S fun b S1 => cnd b (Q true S1) (g ρ S1 Q)
theorem pb_not {e : Expr} {f : PFB} (h : PB X S0 H0 e f) : PB X S0 H0 (.UnaryOp .Not e pos) (fNot f) :=
  ⟨fun ρ S Q Q' i q => h.mono _ _ _ _ (fun _ _ q => i _ _ q) q, PT.imp (pt_not h.pt) fun _ _ _ q => q⟩
theorem and_mono {f g : PFB} (hf : ∀ ρ S Q Q', (∀ p S', Q p S' → Q' p S') → f ρ S Q → f ρ S Q') (hg : ∀ ρ S Q Q', (∀ p S', Q p S' → Q' p S') → g ρ S Q → g ρ S Q') :
    ∀ ρ S Q Q', (∀ p S', Q p S' → Q' p S') → fAnd f g ρ S Q → fAnd f g ρ S Q' := fun ρ S Q Q' i q => hf _ _ _ _ (fun b S1 q => by
  cases b with
  | true => exact hg _ _ _ _ i q
  | false => exact i _ _ q) q
theorem or_mono {f g : PFB} (hf : ∀ ρ S Q Q', (∀ p S', Q p S' → Q' p S') → f ρ S Q → f ρ S Q') (hg : ∀ ρ S Q Q', (∀ p S', Q p S' → Q' p S') → g ρ S Q → g ρ S Q') :
    ∀ ρ S Q Q', (∀ p S', Q p S' → Q' p S') → fOr f g ρ S Q → fOr f g ρ S Q' := fun ρ S Q Q' i q => hf _ _ _ _ (fun b S1 q => by
  cases b with
  | true => exact i _ _ q
  | false => exact hg _ _ _ _ i q) q
theorem pbw_and1 {e : Expr} {f : PFB} (h : PB X S0 H0 e f) : PBw X S0 H0 (.BoolOp .And [e] pos) f := ⟨h.mono, pw_and1 h.pt⟩
theorem pbw_or1 {e : Expr} {f : PFB} (h : PB X S0 H0 e f) : PBw X S0 H0 (.BoolOp .Or [e] pos) f := ⟨h.mono, pw_or1 h.pt⟩
theorem pbw_and {e e' : Expr} {es : List Expr} {f g : PFB} (h : PB X S0 H0 e f) (h' : PBw X S0 H0 (.BoolOp .And (e' :: es) pos) g) : PBw X S0 H0 (.BoolOp .And (e :: e' :: es) pos) (fAnd f g) := by
  refine ⟨and_mono h.mono h'.mono, PW.imp (pw_and h.pt h'.pw) fun σ H Q ⟨ρ, S, re, rs, ex, q⟩ => ?_⟩
  refine ⟨ρ, S, re, rs, ex, h.mono _ _ _ _ (fun b S1 q H1 rs1 ex1 => ?_) q⟩
  cases b with
  | true => exact ⟨ρ, S1, re.ext rs ex1, rs1, ex.trans ex1, h'.mono _ _ _ _ (fun b S2 q H2 rs2 ex2 => q H2 rs2 (ex1.trans ex2)) q⟩
  | false => exact q H1 rs1 ex1
theorem pbw_or {e e' : Expr} {es : List Expr} {f g : PFB} (h : PB X S0 H0 e f) (h' : PBw X S0 H0 (.BoolOp .Or (e' :: es) pos) g) : PBw X S0 H0 (.BoolOp .Or (e :: e' :: es) pos) (fOr f g) := by
  refine ⟨or_mono h.mono h'.mono, PW.imp (pw_or h.pt h'.pw) fun σ H Q ⟨ρ, S, re, rs, ex, q⟩ => ?_⟩
  refine ⟨ρ, S, re, rs, ex, h.mono _ _ _ _ (fun b S1 q H1 rs1 ex1 => ?_) q⟩
  cases b with
  | false => exact ⟨ρ, S1, re.ext rs ex1, rs1, ex.trans ex1, h'.mono _ _ _ _ (fun b S2 q H2 rs2 ex2 => q H2 rs2 (ex1.trans ex2)) q⟩
  | true => exact q H1 rs1 ex1
theorem PBw.pb {e : Expr} {f : PFB} (h : PBw X S0 H0 e f) : PB X S0 H0 e f := ⟨h.mono, h.pw.pt⟩
/-! .. as values -/
def fNotV (f : PF) : PF := fun ρ S Q => f ρ S fun p S1 => match p with | .bl b => Q (.bl (!b)) S1 | _ => False
def fAndV (f g : PF) : PF := fun ρ S Q => f ρ S fun p S1 => match p with | .bl b => cnd b (g ρ S1 Q) (Q (.bl false) S1) | _ => False
def fOrV (f g : PF) : PF := fun ρ S Q => f ρ S fun p S1 => match p with | .bl b => cnd b (Q (.bl true) S1) (g ρ S1 Q) | _ => False
theorem pv_one {op} (h : PV X S0 H0 a fa) : PV X S0 H0 (.BoolOp op [a] pos) fa := ⟨h.mono, pe_one h.pe⟩
theorem pv_not (h : PV X S0 H0 a fa) : PV X S0 H0 (.UnaryOp .Not a pos) (fNotV fa) := by
  refine ⟨fun ρ S Q Q' i q => h.mono _ _ _ _ (fun p S1 q => by cases p <;> first | exact i _ _ q | exact q) q, PE.imp (pe_not h.pe) fun σ H Q ⟨ρ, S, re, rs, ex, q⟩ => ?_⟩
  refine ⟨ρ, S, re, rs, ex, h.mono _ _ _ _ (fun p S1 q v H1 rv rs1 ex1 => ?_) q⟩
  cases p with
  | bl b => exact ⟨b, rv, q (.bl (!b)) H1 rfl rs1 ex1⟩
  | _ => exact q.elim
theorem pv_and {e' : Expr} {es : List Expr} (h : PV X S0 H0 a fa) (h' : PV X S0 H0 (.BoolOp .And (e' :: es) pos) fb) : PV X S0 H0 (.BoolOp .And (a :: e' :: es) pos) (fAndV fa fb) := by
  refine ⟨fun ρ S Q Q' i q => h.mono _ _ _ _ (fun p S1 q => ?_) q, PE.imp (pe_and h.pe h'.pe) fun σ H Q ⟨ρ, S, re, rs, ex, q⟩ => ?_⟩
  · cases p with
    | bl b => cases b with
      | true => exact h'.mono _ _ _ _ i q
      | false => exact i _ _ q
    | _ => exact q
  · refine ⟨ρ, S, re, rs, ex, h.mono _ _ _ _ (fun p S1 q v H1 rv rs1 ex1 => ?_) q⟩
    cases p with
    | bl b =>
      refine ⟨b, rv, ?_⟩
      cases b with
      | true => exact ⟨ρ, S1, re.ext rs ex1, rs1, ex.trans ex1, h'.mono _ _ _ _ (fun b S2 q v H2 rv rs2 ex2 => q v H2 rv rs2 (ex1.trans ex2)) q⟩
      | false => exact q (.bl false) H1 rfl rs1 ex1
    | _ => exact q.elim
theorem pv_or {e' : Expr} {es : List Expr} (h : PV X S0 H0 a fa) (h' : PV X S0 H0 (.BoolOp .Or (e' :: es) pos) fb) : PV X S0 H0 (.BoolOp .Or (a :: e' :: es) pos) (fOrV fa fb) := by
  refine ⟨fun ρ S Q Q' i q => h.mono _ _ _ _ (fun p S1 q => ?_) q, PE.imp (pe_or h.pe h'.pe) fun σ H Q ⟨ρ, S, re, rs, ex, q⟩ => ?_⟩
  · cases p with
    | bl b => cases b with
      | false => exact h'.mono _ _ _ _ i q
      | true => exact i _ _ q
    | _ => exact q
  · refine ⟨ρ, S, re, rs, ex, h.mono _ _ _ _ (fun p S1 q v H1 rv rs1 ex1 => ?_) q⟩
    cases p with
    | bl b =>
      refine ⟨b, rv, ?_⟩
      cases b with
      | false => exact ⟨ρ, S1, re.ext rs ex1, rs1, ex.trans ex1, h'.mono _ _ _ _ (fun b S2 q v H2 rv rs2 ex2 => q v H2 rv rs2 (ex1.trans ex2)) q⟩
      | true => exact q (.bl true) H1 rfl rs1 ex1
    | _ => exact q.elim
def fIf (c : PFB) (f g : PF) : PF := fun ρ S Q => c ρ S fun b S1 => cnd b (f ρ S1 Q) (g ρ S1 Q)
theorem pv_if {c : Expr} {fc : PFB} (hc : PB X S0 H0 c fc) (ha : PV X S0 H0 a fa) (hb : PV X S0 H0 b fb) : PV X S0 H0 (.IfExp c a b pos) (fIf fc fa fb) := by
  refine ⟨fun ρ S Q Q' i q => hc.mono _ _ _ _ (fun d S1 q => ?_) q, PE.imp (pe_ifExp hc.pt ha.pe hb.pe) fun σ H Q ⟨ρ, S, re, rs, ex, q⟩ => ?_⟩
  · cases d with
    | true => exact ha.mono _ _ _ _ i q
    | false => exact hb.mono _ _ _ _ i q
  · refine ⟨ρ, S, re, rs, ex, hc.mono _ _ _ _ (fun d S1 q H1 rs1 ex1 => ?_) q⟩
    cases d with
    | true => exact ⟨ρ, S1, re.ext rs ex1, rs1, ex.trans ex1, ha.mono _ _ _ _ (fun b S2 q v H2 rv rs2 ex2 => q v H2 rv rs2 (ex1.trans ex2)) q⟩
    | false => exact ⟨ρ, S1, re.ext rs ex1, rs1, ex.trans ex1, hb.mono _ _ _ _ (fun b S2 q v H2 rv rs2 ex2 => q v H2 rv rs2 (ex1.trans ex2)) q⟩
end
end PL

/-! The pure layer, part 2: operations. -/
namespace PL
open PySem PySem.Spec PyProof.Rows L2

/-- an object of the store, read as it stands -/
def top (S : Sto) : Pv → Pv
  | .ref a => match S a with
    | some (.lst xs) => .lst xs
    | some (.dct ks vs) => .dct ks vs
    | _ => .ref a
  | .non => .non | .bl b => .bl b | .int i => .int i | .str x => .str x | .tup xs => .tup xs | .lst xs => .lst xs | .dct k v => .dct k v | .ty n => .ty n | .scr xs => .scr xs
mutual
def toD : Pv → PyData
  | .non => .none | .bl b => .bool b | .int i => .int i | .str x => .str x | .tup xs => .tuple (toDs xs) | .lst xs => .list (toDs xs) | .scr xs => .list (toDs xs) | .dct _ _ => .dict [] | .ref _ => .none | .ty _ => .none
def toDs : List Pv → List PyData
  | [] => []
  | p :: ps => toD p :: toDs ps
end
mutual
/-- plain data: no object of the store, no dict -/
def isD : Pv → Bool
  | .non => true | .bl _ => true | .int _ => true | .str _ => true | .tup xs => isDs xs | .lst xs => isDs xs | .scr xs => isDs xs | .dct _ _ => false | .ref _ => false | .ty _ => false
def isDs : List Pv → Bool
  | [] => true
  | p :: ps => isD p && isDs ps
end
section
variable {K : PySem.W.Frag} {H : Hp} {S : Sto}
theorem sqL_of {a : Addr} {vs : List V} (h : SqL K (fun _ => none) a vs) : SqL K H a vs := by
  rcases h with (h | ⟨o, h⟩) | h
  · cases h
  · cases h
  · exact .inr h
theorem sqL_of2 {a : Addr} {vs : List V} (h : (∃ o, H a = some (.frz o (.lst vs))) ∨ SqL K (fun _ => none) a vs) : SqL K H a vs := h.elim (fun z => .inl (.inr z)) sqL_of
mutual
theorem dp_of : ∀ (p : Pv) (v : V), RepV K H S p v → isD p = true → Dp K H v (toD p)
  | .non, _, h, _ => by have e : _ = _ := h; rw [e]; exact .non
  | .bl _, _, h, _ => by have e : _ = _ := h; rw [e]; exact .bl _
  | .int _, _, h, _ => by have e : _ = _ := h; rw [e]; exact .int _
  | .str _, _, h, _ => by have e : _ = _ := h; rw [e]; exact .str _
  | .tup ps, _, ⟨a, vs, e1, h, r⟩, d => by rw [e1]; exact .tup h (dps_of ps vs r (by simpa [isD] using d))
  | .lst ps, _, ⟨a, vs, e1, h, hs, r⟩, d => by rw [e1]; exact .lst (.inl (.inl h)) (dps_of ps vs r (by simpa [isD] using d))
  | .scr ps, _, ⟨a, vs, e1, h, r⟩, d => by rw [e1]; exact .lst (sqL_of2 h) (dps_of ps vs r (by simpa [isD] using d))
  | .dct _ _, _, _, d => by simp [isD] at d
  | .ref _, _, _, d => by simp [isD] at d
  | .ty _, _, _, d => by simp [isD] at d
theorem dps_of : ∀ (ps : List Pv) (vs : List V), RepVs K H S ps vs → isDs ps = true → DpAll K H vs (toDs ps)
  | [], _, h, _ => by have e : _ = _ := h; rw [e]; exact .nil
  | p :: ps, _, ⟨v, r, e1, h1, h2⟩, d => by
    have d' : isD p = true ∧ isDs ps = true := by simpa [isDs] using d
    rw [e1]; exact .cons (dp_of p v h1 d'.1) (dps_of ps r h2 d'.2)
end
theorem dp_top (rs : RepS K H S) {p : Pv} {v : V} (h : RepV K H S p v) (d : isD (top S p) = true) : Dp K H v (toD (top S p)) := by
  cases p with
  | ref a =>
    simp only [top] at d ⊢
    cases q : S a with
    | none => rw [q] at d; simp [isD] at d
    | some m =>
      cases m with
      | lst xs =>
        rw [q] at d
        obtain ⟨vs, e, r⟩ := rs a _ q
        have e1 : v = _ := h
        rw [e1]
        exact .lst (.inl (.inl e)) (dps_of xs vs r (by simpa [isD] using d))
      | dct ks xs => rw [q] at d; simp [isD] at d
      | tab n => rw [q] at d; simp [isD] at d
      | exc C => rw [q] at d; simp [isD] at d
      | lck o kvs => rw [q] at d; simp [isD] at d
  | non => exact dp_of _ v h d
  | bl b => exact dp_of _ v h d
  | int i => exact dp_of _ v h d
  | str x => exact dp_of _ v h d
  | tup xs => exact dp_of _ v h d
  | lst xs => exact dp_of _ v h d
  | scr xs => exact dp_of _ v h d
  | dct ks xs => exact dp_of _ v h d
  | ty n => exact dp_of _ v h d
/-- a list to be read -/
def rdL (S : Sto) : Pv → Option (List Pv)
  | .lst xs => some xs
  | .scr xs => some xs
  | .ref a => match S a with
    | some (.lst xs) => some xs
    | _ => none
  | _ => none
/-- .. one that is not locked -/
def rdM (S : Sto) : Pv → Option (List Pv)
  | .lst xs => some xs
  | .ref a => match S a with
    | some (.lst xs) => some xs
    | _ => none
  | _ => none
@[simp] theorem rdM_lst (S : Sto) (xs : List Pv) : rdM S (.lst xs) = some xs := rfl
@[simp] theorem rdL_lst (S : Sto) (xs : List Pv) : rdL S (.lst xs) = some xs := rfl
@[simp] theorem rdL_scr (S : Sto) (xs : List Pv) : rdL S (.scr xs) = some xs := rfl
theorem rdM_rep (rs : RepS K H S) {p : Pv} {v : V} {xs : List Pv} (h : RepV K H S p v) (e : rdM S p = some xs) : ∃ a vs, v = .ref a ∧ H a = some (.lst vs) ∧ RepVs K H S xs vs := by
  cases p with
  | lst ys =>
    have e' : ys = xs := by simpa [rdM] using e
    subst e'
    obtain ⟨a, vs, e1, h, hs, r⟩ := h
    exact ⟨a, vs, e1, h, r⟩
  | ref a =>
    simp only [rdM] at e
    split at e
    · rename_i ys q
      have e' : ys = xs := by simpa using e
      subst e'
      obtain ⟨vs, e1, r⟩ := rs a _ q
      exact ⟨a, vs, h, e1, r⟩
    · cases e
  | _ => simp [rdM] at e
theorem rdL_rep (rs : RepS K H S) {p : Pv} {v : V} {xs : List Pv} (h : RepV K H S p v) (e : rdL S p = some xs) : ∃ a vs, v = .ref a ∧ SqL K H a vs ∧ RepVs K H S xs vs := by
  by_cases q : ∃ ys, p = .scr ys
  · obtain ⟨ys, rfl⟩ := q
    have e' : ys = xs := by simpa [rdL] using e
    subst e'
    obtain ⟨a, vs, e1, h, r⟩ := h
    exact ⟨a, vs, e1, sqL_of2 h, r⟩
  · obtain ⟨a, vs, e1, h1, r⟩ := rdM_rep (xs := xs) rs h (by
      cases p with
      | scr ys => exact absurd ⟨ys, rfl⟩ q
      | lst ys => exact e
      | ref a => exact e
      | _ => simp [rdL] at e)
    exact ⟨a, vs, e1, .inl (.inl h1), r⟩
theorem repV_int {v : V} {i : Int} (h : RepV K H S (.int i) v) : v = .int i := h
end

/-! ### ints -/
def oAdd : O2 := fun x y S Q => match x, y with
  | .int i, .int j => Q (.int (i + j)) S
  | .str x, .str y => x.length + y.length ≤ sizeLine ∧ Q (.str (x ++ y)) S
  | .tup xs, .tup ys => xs.length + ys.length ≤ sizeLine ∧ Q (.tup (xs ++ ys)) S
  | x, y => match rdM S x, rdM S y with
    | some xs, some ys => xs.length + ys.length ≤ sizeLine ∧ Q (.lst (xs ++ ys)) S
    | _, _ => False
/-- .. the new list is to be changed -/
def oAddT : O2 := fun x y S Q => match rdM S x, rdM S y with
  | some xs, some ys => xs.length + ys.length ≤ sizeLine ∧ ∀ a, S a = none → Q (.ref a) (put S a (.lst (xs ++ ys)))
  | _, _ => False
def oSub : O2 := fun x y S Q => match x, y with
  | .int i, .int j => Q (.int (i - j)) S
  | _, _ => False
def oMul : O2 := fun x y S Q => match x, y with
  | .int i, .int j => IntMulOk i j ∧ Q (.int (i * j)) S
  | .lst xs, .int k => (-(2 ^ 63) ≤ k ∧ k < 2 ^ 63 ∧ xs.length * k.toNat ≤ sizeLine) ∧ Q (.lst (List.replicate k.toNat xs).flatten) S
  | .str x, .int k => MulOk x k ∧ Q (.str (Txt.mul x k)) S
  | .tup xs, .int k => (xs ≠ [] ∧ 2 ≤ k ∧ k ≤ 1000 ∧ xs.length ≤ 1000) ∧ Q (.tup (List.replicate k.toNat xs).flatten) S
  | _, _ => False
def oDiv : O2 := fun x y S Q => match x, y with
  | .int i, .int j => (j ≠ 0 ∧ j.natAbs.log2 < 9000) ∧ Q (.int (i.fdiv j)) S
  | _, _ => False
def oMod : O2 := fun x y S Q => match x, y with
  | .int i, .int j => j ≠ 0 ∧ Q (.int (i.fmod j)) S
  | _, _ => False
def oPow : O2 := fun x y S Q => match x, y with
  | .int i, .int j => CPow i j ∧ Q (.int (i ^ j.toNat)) S
  | _, _ => False
def oShl : O2 := fun x y S Q => match x, y with
  | .int i, .int j => CShl i j ∧ Q (.int (i * 2 ^ j.toNat)) S
  | _, _ => False
def oShr : O2 := fun x y S Q => match x, y with
  | .int i, .int j => 0 ≤ j ∧ Q (.int (i / 2 ^ j.toNat)) S
  | _, _ => False
def oBand : O2 := fun x y S Q => match x, y with
  | .int i, .int j => Q (.int (Builtin.bitAnd i j)) S
  | _, _ => False
def oNeg : O1 := fun x S Q => match x with
  | .int i => Q (.int (-i)) S
  | _ => False
section
variable {X : Cx} {S0 : Sto} {H0 : Hp} {a b : Expr} {fa fb : PF} {pos : Pos}
theorem Sim2.ints {K : PySem.W.Frag} {r : R2} {o : O2} {C : Int → Int → Prop} {g : Int → Int → Pv} {gv : Int → Int → V} (hg : ∀ i j H S, RepV K H S (g i j) (gv i j))
    (ho : ∀ x y S Q, o x y S Q ↔ ∃ i j, x = .int i ∧ y = .int j ∧ C i j ∧ Q (g i j) S) (hr : ∀ x y H Q, r x y H Q ↔ ∃ i j, x = .int i ∧ y = .int j ∧ C i j ∧ Q (gv i j) H) : Sim2 K r o := by
  refine ⟨fun x y S Q Q' h q => ?_, fun x y S Qp v u H Q rx ry rs h k => ?_⟩
  · obtain ⟨i, j, e1, e2, c, q⟩ := (ho _ _ _ _).mp q
    exact (ho _ _ _ _).mpr ⟨i, j, e1, e2, c, h _ _ q⟩
  · obtain ⟨i, j, rfl, rfl, c, q⟩ := (ho _ _ _ _).mp h
    exact (hr _ _ _ _).mpr ⟨i, j, rx, ry, c, k _ S _ H q (hg i j H S) rs (Ext.refl S H)⟩
theorem int2_iff {P : Int → Int → Prop} {x y : Pv} : (match x, y with | .int i, .int j => P i j | _, _ => False) ↔ ∃ i j, x = .int i ∧ y = .int j ∧ P i j := by
  cases x <;> cases y <;> simp
theorem pv_sub (ha : PV X S0 H0 a fa) (hb : PV X S0 H0 b fb) : PV X S0 H0 (.BinOp a .Sub b pos) (f2 oSub fa fb) :=
  pv_op op_sub (Sim2.ints (C := fun _ _ => True) (g := fun i j => .int (i - j)) (gv := fun i j => .int (i - j)) (fun _ _ _ _ => rfl) (fun x y S Q => by simp only [oSub, int2_iff, true_and]) fun x y H Q => by simp [rI0]) ha hb
theorem op_divZ : OpR X (binaryOp .FloorDiv) (rI (fun _ j => j ≠ 0 ∧ j.natAbs.log2 < 9000) fun i j => .int (i.fdiv j)) := opI fun _ _ _ _ _ _ _ hc q => floordiv_int hc.1 q (.inl (PyProof.noPylong_of_log2 hc.2))
theorem op_mulZ : OpR X (binaryOp .Mult) (rI IntMulOk fun i j => .int (i * j)) := opI fun _ _ _ _ _ _ _ hc q => mul_int q hc
theorem pv_div (ha : PV X S0 H0 a fa) (hb : PV X S0 H0 b fb) : PV X S0 H0 (.BinOp a .FloorDiv b pos) (f2 oDiv fa fb) :=
  pv_op op_divZ (Sim2.ints (C := fun _ j => j ≠ 0 ∧ j.natAbs.log2 < 9000) (g := fun i j => .int (i.fdiv j)) (gv := fun i j => .int (i.fdiv j)) (fun _ _ _ _ => rfl) (fun x y S Q => by simp only [oDiv, int2_iff]) fun x y H Q => by simp [rI]) ha hb
theorem pv_mod (ha : PV X S0 H0 a fa) (hb : PV X S0 H0 b fb) : PV X S0 H0 (.BinOp a .Mod b pos) (f2 oMod fa fb) :=
  pv_op op_modN (Sim2.ints (C := fun _ j => j ≠ 0) (g := fun i j => .int (i.fmod j)) (gv := fun i j => .int (i.fmod j)) (fun _ _ _ _ => rfl) (fun x y S Q => by simp only [oMod, int2_iff]) fun x y H Q => by simp [rI]) ha hb
theorem pv_pow (ha : PV X S0 H0 a fa) (hb : PV X S0 H0 b fb) : PV X S0 H0 (.BinOp a .Pow b pos) (f2 oPow fa fb) :=
  pv_op op_pow (Sim2.ints (C := CPow) (g := fun i j => .int (i ^ j.toNat)) (gv := fun i j => .int (i ^ j.toNat)) (fun _ _ _ _ => rfl) (fun x y S Q => by simp only [oPow, int2_iff]) fun x y H Q => by simp [rI]) ha hb
theorem pv_shl (ha : PV X S0 H0 a fa) (hb : PV X S0 H0 b fb) : PV X S0 H0 (.BinOp a .LShift b pos) (f2 oShl fa fb) :=
  pv_op op_shlW (Sim2.ints (C := CShl) (g := fun i j => .int (i * 2 ^ j.toNat)) (gv := fun i j => .int (i * 2 ^ j.toNat)) (fun _ _ _ _ => rfl) (fun x y S Q => by simp only [oShl, int2_iff]) fun x y H Q => by simp [rI]) ha hb
theorem pv_shr (ha : PV X S0 H0 a fa) (hb : PV X S0 H0 b fb) : PV X S0 H0 (.BinOp a .RShift b pos) (f2 oShr fa fb) :=
  pv_op op_shr (Sim2.ints (C := fun _ j => 0 ≤ j) (g := fun i j => .int (i / 2 ^ j.toNat)) (gv := fun i j => .int (i / 2 ^ j.toNat)) (fun _ _ _ _ => rfl) (fun x y S Q => by simp only [oShr, int2_iff]) fun x y H Q => by simp [rI]) ha hb
theorem pv_band (ha : PV X S0 H0 a fa) (hb : PV X S0 H0 b fb) : PV X S0 H0 (.BinOp a .BitAnd b pos) (f2 oBand fa fb) :=
  pv_op op_and (Sim2.ints (C := fun _ _ => True) (g := fun i j => .int (Builtin.bitAnd i j)) (gv := fun i j => .int (Builtin.bitAnd i j)) (fun _ _ _ _ => rfl) (fun x y S Q => by simp only [oBand, int2_iff, true_and]) fun x y H Q => by simp [rI0]) ha hb
theorem pv_neg (ha : PV X S0 H0 a fa) : PV X S0 H0 (.UnaryOp .USub a pos) (f1 oNeg fa) := by
  refine pv_un un_neg ⟨fun x S Q Q' h q => ?_, fun x S Qp v H Q rx rs h k => ?_⟩ ha
  · cases x <;> first | exact h _ _ q | exact q
  · cases x with
    | int i => exact ⟨i, rx, k _ S _ H h rfl rs (Ext.refl S H)⟩
    | _ => exact h.elim
theorem sim_addL {x y : Pv} {xs ys : List Pv} {S : Sto} {v u : V} {H : Hp} {Q : VK} (rs : RepS X.K H S) (rx : RepV X.K H S x v) (ry : RepV X.K H S y u) (e1 : rdM S x = some xs) (e2 : rdM S y = some ys) (hz : xs.length + ys.length ≤ sizeLine)
    (k : ∀ p vs, H p = none → RepVs X.K H S (xs ++ ys) vs → Q (.ref p) (upd H p (.lst vs))) : rCat v u H Q := by
  obtain ⟨l, vs, rfl, hl, r1⟩ := rdM_rep rs rx e1
  obtain ⟨b, us, rfl, hb, r2⟩ := rdM_rep rs ry e2
  exact ⟨l, b, vs, us, rfl, rfl, hl, hb, by rw [r1.len, r2.len]; exact hz, fun p np => k p _ np (r1.app r2)⟩
theorem newL_k {K : PySem.W.Frag} {H : Hp} {S : Sto} {xs : List Pv} {vs : List V} {p : Addr} (rs : RepS K H S) (np : H p = none) (r : RepVs K H S xs vs) : RepV K (upd H p (.lst vs)) S (.lst xs) (.ref p) ∧ RepS K (upd H p (.lst vs)) S ∧ Ext S H S (upd H p (.lst vs)) :=
  ⟨⟨p, vs, rfl, upd_same, rs.fr np, RepVs.ext rs (Ext.newT (K := K) np) _ _ r⟩, rs.newT np, Ext.newT (K := K) np⟩
theorem newT_k {K : PySem.W.Frag} {H : Hp} {S : Sto} {xs : List Pv} {vs : List V} {p : Addr} (rs : RepS K H S) (np : H p = none) (r : RepVs K H S xs vs) : RepV K (upd H p (.tup vs)) S (.tup xs) (.ref p) ∧ RepS K (upd H p (.tup vs)) S ∧ Ext S H S (upd H p (.tup vs)) :=
  ⟨⟨p, vs, rfl, .inl (.inl upd_same), RepVs.ext rs (Ext.newT (K := K) np) _ _ r⟩, rs.newT np, Ext.newT (K := K) np⟩
theorem sim_catT {xs ys : List Pv} {S : Sto} {v u : V} {H : Hp} {Q : VK} (rs : RepS X.K H S) (rx : RepV X.K H S (.tup xs) v) (ry : RepV X.K H S (.tup ys) u) (hz : xs.length + ys.length ≤ sizeLine)
    (k : ∀ z H', RepV X.K H' S (.tup (xs ++ ys)) z → RepS X.K H' S → Ext S H S H' → Q z H') : rCatA X.K v u H Q := by
  have rx' := rx
  have ry' := ry
  obtain ⟨l, vs, rfl, hl, r1⟩ := rx
  obtain ⟨b, us, rfl, hb, r2⟩ := ry
  refine ⟨l, b, vs, us, rfl, rfl, hl, hb, by rw [r1.len, r2.len]; exact hz, fun e => ?_, fun _ e => ?_, fun _ _ p np => ?_⟩
  · have e0 : xs = [] := List.length_eq_zero_iff.mp (by rw [← r1.len, e]; rfl)
    subst e0
    exact k _ H ry' rs (Ext.refl S H)
  · have e0 : ys = [] := List.length_eq_zero_iff.mp (by rw [← r2.len, e]; rfl)
    subst e0
    rw [List.append_nil] at k
    exact k _ H rx' rs (Ext.refl S H)
  · obtain ⟨a1, a2, a3⟩ := newT_k rs np (r1.app r2)
    exact k _ _ a1 a2 a3
theorem pv_add (ha : PV X S0 H0 a fa) (hb : PV X S0 H0 b fb) : PV X S0 H0 (.BinOp a .Add b pos) (f2 oAdd fa fb) := by
  refine pv_op (OpR.or op_add (OpR.or op_add_str (OpR.or op_catA op_cat))) ⟨fun x y S Q Q' h q => ?_, fun x y S Qp v u H Q rx ry rs h k => ?_⟩ ha hb
  · unfold oAdd at q ⊢
    split at q
    · exact h _ _ q
    · exact ⟨q.1, h _ _ q.2⟩
    · exact ⟨q.1, h _ _ q.2⟩
    · split at q
      · exact ⟨q.1, h _ _ q.2⟩
      · exact q.elim
  · unfold oAdd at h
    split at h
    · exact .inl ⟨_, _, rx, ry, k _ S _ H h rfl rs (Ext.refl S H)⟩
    · exact .inr (.inl ⟨_, _, rx, ry, h.1, k _ S _ H h.2 rfl rs (Ext.refl S H)⟩)
    · exact .inr (.inr (.inl (sim_catT rs rx ry h.1 fun z H' a1 a2 a3 => k _ S z H' h.2 a1 a2 a3)))
    · split at h
      · rename_i xs ys e1 e2
        exact .inr (.inr (.inr (sim_addL rs rx ry e1 e2 h.1 fun p vs np r => by
          obtain ⟨a1, a2, a3⟩ := newL_k rs np r
          exact k _ S _ _ h.2 a1 a2 a3)))
      · exact h.elim
theorem pv_addT (ha : PV X S0 H0 a fa) (hb : PV X S0 H0 b fb) : PV X S0 H0 (.BinOp a .Add b pos) (f2 oAddT fa fb) := by
  refine pv_op op_cat ⟨fun x y S Q Q' h q => ?_, fun x y S Qp v u H Q rx ry rs h k => ?_⟩ ha hb
  · unfold oAddT at q ⊢
    split at q
    · exact ⟨q.1, fun a ha => h _ _ (q.2 a ha)⟩
    · exact q.elim
  · unfold oAddT at h
    split at h
    · rename_i xs ys e1 e2
      exact sim_addL rs rx ry e1 e2 h.1 fun p vs np r => k _ _ _ _ (h.2 p (rs.fr np)) rfl (rs.newL np r) (Ext.newS np)
    · exact h.elim
theorem op_mul_str : OpR X (binaryOp .Mult) (fun x y H Q => ∃ i k, x = .str i ∧ y = .int k ∧ MulOk i k ∧ Q (.str (Txt.mul i k)) H) := by
  intro pins s σ H x y v u Q I rx ry h
  obtain ⟨i, k, rfl, rfl, hz, q⟩ := h
  obtain ⟨t, rfl⟩ := rx
  obtain ⟨t', rfl⟩ := ry
  exact SB.mul hz fun t' tk => ⟨.str (Txt.mul i k), H, I.tok _, ⟨_, rfl⟩, q⟩
theorem rep_flat {K : PySem.W.Frag} {H : Hp} {S : Sto} {xs : List Pv} {vs : List V} (r : RepVs K H S xs vs) : ∀ n, RepVs K H S (List.replicate n xs).flatten (List.replicate n vs).flatten
  | 0 => rfl
  | n + 1 => by rw [List.replicate_succ, List.replicate_succ, List.flatten_cons, List.flatten_cons]; exact r.app (rep_flat r n)
theorem pv_mul (ha : PV X S0 H0 a fa) (hb : PV X S0 H0 b fb) : PV X S0 H0 (.BinOp a .Mult b pos) (f2 oMul fa fb) := by
  refine pv_op (OpR.or op_mulZ (OpR.or op_rep (OpR.or op_mul_str op_repT))) ⟨fun x y S Q Q' h q => ?_, fun x y S Qp v u H Q rx ry rs h k => ?_⟩ ha hb
  · unfold oMul at q ⊢
    split at q
    · exact ⟨q.1, h _ _ q.2⟩
    · exact ⟨q.1, h _ _ q.2⟩
    · exact ⟨q.1, h _ _ q.2⟩
    · exact ⟨q.1, h _ _ q.2⟩
    · exact q.elim
  · unfold oMul at h
    split at h
    · exact .inl ⟨_, _, rx, ry, h.1, k _ S _ H h.2 rfl rs (Ext.refl S H)⟩
    · obtain ⟨l, vs, rfl, hl, hs, r⟩ := rx
      refine .inr (.inl ⟨l, _, vs, rfl, ry, hl, h.1.1, h.1.2.1, by rw [r.len]; exact h.1.2.2, fun p np => ?_⟩)
      obtain ⟨a1, a2, a3⟩ := newL_k rs np (rep_flat r _)
      exact k _ S _ _ h.2 a1 a2 a3
    · exact .inr (.inr (.inl ⟨_, _, rx, ry, h.1, k _ S _ H h.2 rfl rs (Ext.refl S H)⟩))
    · obtain ⟨l, vs, rfl, hl, r⟩ := rx
      refine .inr (.inr (.inr ⟨l, _, vs, rfl, ry, hl, ?_, h.1.2.1, h.1.2.2.1, by rw [r.len]; exact h.1.2.2.2, fun p np => ?_⟩))
      · intro e
        have := r.len
        rw [e] at this
        exact h.1.1 (List.length_eq_zero_iff.mp this.symm)
      · obtain ⟨a1, a2, a3⟩ := newT_k rs np (rep_flat r _)
        exact k _ S _ _ h.2 a1 a2 a3
    · exact h.elim
end

/-! ### comparisons -/
def oCmpI (c : Int → Int → Bool) (cs : Str → Str → Bool) (cd : PyData → PyData → Bool) : O2 := fun x y S Q => match x, y with
  | .int i, .int j => Q (.bl (c i j)) S
  | .str i, .str j => Q (.bl (cs i j)) S
  | .tup xs, .tup ys => ((isDs xs = true ∧ isDs ys = true) ∧ PySem.W.alike (toD (.tup xs)) (toD (.tup ys)) = true ∧ (toD (.tup xs)).depth ≤ 60) ∧ Q (.bl (cd (toD (.tup xs)) (toD (.tup ys)))) S
  | _, _ => False
def strLt (i j : Str) : Bool := decide (i.cps.toList < j.cps.toList)
abbrev oLt : O2 := oCmpI (fun i j => decide (i < j)) strLt (fun x y => PySem.W.dataLt x y)
abbrev oLe : O2 := oCmpI (fun i j => decide (i ≤ j)) (fun i j => !strLt j i) (fun x y => !PySem.W.dataLt y x)
abbrev oGt : O2 := oCmpI (fun i j => decide (j < i)) (fun i j => strLt j i) (fun x y => PySem.W.dataLt y x)
abbrev oGe : O2 := oCmpI (fun i j => decide (j ≤ i)) (fun i j => !strLt i j) (fun x y => !PySem.W.dataLt x y)
def rCmpD (K : PySem.W.Frag) (cd : PyData → PyData → Bool) : R2 := fun x y H Q => ∃ d e, Dp K H x d ∧ Dp K H y e ∧ PySem.W.alike d e = true ∧ d ≠ .none ∧ d.depth ≤ 60 ∧ Q (.bl (cd d e)) H
section
variable {X : Cx} {S0 : Sto} {H0 : Hp} {a b : Expr} {fa fb : PF} {pos : Pos}
theorem op_cmpD {op : CmpOp} {cd : PyData → PyData → Bool} (hu : X.A.units + 64 < cLine) (hop : ∀ (A : Around) (s : Shared) (v u : Value) (d e : PyData) (as bs : List Addr), Reads s.heap v d as → Reads s.heap u e bs → PySem.W.alike d e = true → d ≠ .none → A.units + min d.depth e.depth < cLine → PySem.SeqAt.RcOp op A s v u (cd d e))
    (hco : ∀ v u, compareOp op v u = richCompare op v u) : OpR X (compareOp op) (rCmpD X.K cd) := by
  intro pins s σ H x y v u Q I rx ry h
  obtain ⟨d, e, hd, he, al, hn, hdp, q⟩ := h
  obtain ⟨as, r1⟩ := Dp.reads I d x v hd rx
  obtain ⟨bs, r2⟩ := Dp.reads I e y u he ry
  rw [hco]
  have hm : min d.depth e.depth ≤ d.depth := Nat.min_le_left _ _
  exact hop X.A s v u d e as bs r1 r2 al hn (by omega) X.prog X.w X.xe _ ⟨.bl _, H, I, rfl, q⟩
theorem sim_cmp {K : PySem.W.Frag} {c : Int → Int → Bool} {cs : Str → Str → Bool} {cd : PyData → PyData → Bool} : Sim2 K (fun x y H Q => (rI0 (fun i j => .bl (c i j)) x y H Q ∨ ∃ i j, x = .str i ∧ y = .str j ∧ Q (.bl (cs i j)) H) ∨ rCmpD K cd x y H Q) (oCmpI c cs cd) := by
  refine ⟨fun x y S Q Q' h q => ?_, fun x y S Qp v u H Q rx ry rs h k => ?_⟩
  · unfold oCmpI at q ⊢
    split at q
    · exact h _ _ q
    · exact h _ _ q
    · exact ⟨q.1, h _ _ q.2⟩
    · exact q.elim
  · unfold oCmpI at h
    split at h
    · exact .inl (.inl ⟨_, _, rx, ry, k _ S _ H h rfl rs (Ext.refl S H)⟩)
    · exact .inl (.inr ⟨_, _, rx, ry, k _ S _ H h rfl rs (Ext.refl S H)⟩)
    · obtain ⟨⟨⟨h1, h2⟩, h3, h4⟩, h5⟩ := h
      exact .inr ⟨_, _, dp_of _ _ rx h1, dp_of _ _ ry h2, h3, (fun z => by simp [toD] at z), h4, k _ S _ H h5 rfl rs (Ext.refl S H)⟩
    · exact h.elim
theorem opLt (hu : X.A.units + 64 < cLine) : OpR X (compareOp .Lt) (fun x y H Q => (rI0 (fun i j => .bl (decide (i < j))) x y H Q ∨ ∃ i j, x = .str i ∧ y = .str j ∧ Q (.bl (strLt i j)) H) ∨ rCmpD X.K (fun x y => PySem.W.dataLt x y) x y H Q) := OpR.or (OpR.or op_lt op_lt_str) (op_cmpD hu (fun A s v u d e as bs r1 r2 al hn hd => PySem.W.rcLt_alike d e A s v u as bs r1 r2 al hn hd) fun _ _ => rfl)
theorem opLe (hu : X.A.units + 64 < cLine) : OpR X (compareOp .LtE) (fun x y H Q => (rI0 (fun i j => .bl (decide (i ≤ j))) x y H Q ∨ ∃ i j, x = .str i ∧ y = .str j ∧ Q (.bl (!strLt j i)) H) ∨ rCmpD X.K (fun x y => !PySem.W.dataLt y x) x y H Q) := OpR.or (OpR.or op_le op_le_str) (op_cmpD hu (fun A s v u d e as bs r1 r2 al hn hd => PySem.W.rcLe_alike d e A s v u as bs r1 r2 al hn hd) fun _ _ => rfl)
theorem opGt (hu : X.A.units + 64 < cLine) : OpR X (compareOp .Gt) (fun x y H Q => (rI0 (fun i j => .bl (decide (j < i))) x y H Q ∨ ∃ i j, x = .str i ∧ y = .str j ∧ Q (.bl (strLt j i)) H) ∨ rCmpD X.K (fun x y => PySem.W.dataLt y x) x y H Q) := OpR.or (OpR.or op_gt op_gt_str) (op_cmpD hu (fun A s v u d e as bs r1 r2 al hn hd => PySem.W.rcGt_alike d e A s v u as bs r1 r2 al hn hd) fun _ _ => rfl)
theorem opGe (hu : X.A.units + 64 < cLine) : OpR X (compareOp .GtE) (fun x y H Q => (rI0 (fun i j => .bl (decide (j ≤ i))) x y H Q ∨ ∃ i j, x = .str i ∧ y = .str j ∧ Q (.bl (!strLt i j)) H) ∨ rCmpD X.K (fun x y => !PySem.W.dataLt x y) x y H Q) := OpR.or (OpR.or op_ge op_ge_str) (op_cmpD hu (fun A s v u d e as bs r1 r2 al hn hd => PySem.W.rcGe_alike d e A s v u as bs r1 r2 al hn hd) fun _ _ => rfl)
/-- == of plain data -/
def scalP : Pv → Pv → Bool
  | .non, .non => true | .non, .int _ => true | .int _, .non => true | .non, .bl _ => true | .bl _, .non => true | .non, .str _ => true | .str _, .non => true
  | .int _, .int _ => true | .bl _, .bl _ => true | .str _, .str _ => true | .int _, .str _ => true | .str _, .int _ => true | .bl _, .str _ => true | .str _, .bl _ => true
  | _, _ => false
def eqS : Pv → Pv → Bool
  | .non, .non => true
  | .int i, .int j => decide (i = j)
  | .bl i, .bl j => decide (i = j)
  | .str i, .str j => decide (i = j)
  | _, _ => false
def okD (p : Pv) : Bool := isD p && SeqAt.shaped (toD p)
def oEq : O2 := fun x y S Q => if scalP x y = true then Q (.bl (eqS x y)) S else (okD (top S x) = true ∧ okD (top S y) = true) ∧ Q (.bl (PyData.eqv (toD (top S x)) (toD (top S y)))) S
def oNe : O2 := fun x y S Q => if scalP x y = true then Q (.bl (!eqS x y)) S else (okD (top S x) = true ∧ okD (top S y) = true) ∧ Q (.bl (!PyData.eqv (toD (top S x)) (toD (top S y)))) S
theorem scal_rep {K : PySem.W.Frag} {H : Hp} {S : Sto} {x y : Pv} {v u : V} (h : scalP x y = true) (rx : RepV K H S x v) (ry : RepV K H S y u) : scal v u = true ∧ decide (v = u) = eqS x y := by
  cases x <;> cases y <;> first
    | (simp [scalP] at h; done)
    | (have e1 : v = _ := rx
       have e2 : u = _ := ry
       subst e1 e2
       constructor
       · rfl
       · simp [eqS])
theorem sim_eq : Sim2 X.K (fun x y H Q => rEq x y H Q ∨ rEqD X.K x y H Q) oEq := by
  refine ⟨fun x y S Q Q' h q => ?_, fun x y S Qp v u H Q rx ry rs h k => ?_⟩
  · unfold oEq at q ⊢
    split
    · rename_i e; rw [if_pos e] at q; exact h _ _ q
    · rename_i e; rw [if_neg e] at q; exact ⟨q.1, h _ _ q.2⟩
  · unfold oEq at h
    split at h
    · rename_i e
      obtain ⟨h1, h2⟩ := scal_rep e rx ry
      exact .inl ⟨h1, by rw [h2]; exact k _ S _ H h rfl rs (Ext.refl S H)⟩
    · obtain ⟨⟨h1, h2⟩, h3⟩ := h
      unfold okD at h1 h2
      rw [Bool.and_eq_true] at h1 h2
      exact .inr ⟨_, _, dp_top rs rx h1.1, dp_top rs ry h2.1, h1.2, h2.2, k _ S _ H h3 rfl rs (Ext.refl S H)⟩
theorem sim_ne : Sim2 X.K (fun x y H Q => rNe x y H Q ∨ rNeD X.K x y H Q) oNe := by
  refine ⟨fun x y S Q Q' h q => ?_, fun x y S Qp v u H Q rx ry rs h k => ?_⟩
  · unfold oNe at q ⊢
    split
    · rename_i e; rw [if_pos e] at q; exact h _ _ q
    · rename_i e; rw [if_neg e] at q; exact ⟨q.1, h _ _ q.2⟩
  · unfold oNe at h
    split at h
    · rename_i e
      obtain ⟨h1, h2⟩ := scal_rep e rx ry
      exact .inl ⟨h1, by rw [h2]; exact k _ S _ H h rfl rs (Ext.refl S H)⟩
    · obtain ⟨⟨h1, h2⟩, h3⟩ := h
      unfold okD at h1 h2
      rw [Bool.and_eq_true] at h1 h2
      exact .inr ⟨_, _, dp_top rs rx h1.1, dp_top rs ry h2.1, h1.2, h2.2, k _ S _ H h3 rfl rs (Ext.refl S H)⟩
theorem opEq (hu : X.A.units + 64 < cLine) : OpR X (compareOp .Eq) (fun x y H Q => rEq x y H Q ∨ rEqD X.K x y H Q) := OpR.or op_eq (op_eqD hu)
theorem opNe (hu : X.A.units + 64 < cLine) : OpR X (compareOp .NotEq) (fun x y H Q => rNe x y H Q ∨ rNeD X.K x y H Q) := OpR.or op_ne (op_neD hu)
/-- is None, is not None -/
def isNonP : Pv → Bool
  | .non => true
  | _ => false
def oIs : O2 := fun x y S Q => match y with
  | .non => Q (.bl (isNonP x)) S
  | _ => False
def oIsNot : O2 := fun x y S Q => match y with
  | .non => Q (.bl (!isNonP x)) S
  | _ => False
theorem isNon_rep {K : PySem.W.Frag} {H : Hp} {S : Sto} {x : Pv} {v : V} (rx : RepV K H S x v) : decide (v = V.non) = isNonP x := by
  cases x with
  | tup xs => obtain ⟨a, vs, rfl, _⟩ := rx; rfl
  | lst xs => obtain ⟨a, vs, rfl, _⟩ := rx; rfl
  | scr xs => obtain ⟨a, vs, rfl, _⟩ := rx; rfl
  | dct ks xs => obtain ⟨a, vs, rfl, _⟩ := rx; rfl
  | _ => have e : v = _ := rx; subst e; rfl
theorem sim_is {K : PySem.W.Frag} : Sim2 K (fun x y H Q => y = .non ∧ Q (.bl (decide (x = .non))) H) oIs := by
  refine ⟨fun x y S Q Q' h q => ?_, fun x y S Qp v u H Q rx ry rs h k => ?_⟩
  · cases y <;> first | exact h _ _ q | exact q.elim
  · cases y with
    | non => exact ⟨ry, by rw [isNon_rep rx]; exact k _ S _ H h rfl rs (Ext.refl S H)⟩
    | _ => exact h.elim
theorem sim_isNot {K : PySem.W.Frag} : Sim2 K (fun x y H Q => y = .non ∧ Q (.bl (!decide (x = .non))) H) oIsNot := by
  refine ⟨fun x y S Q Q' h q => ?_, fun x y S Qp v u H Q rx ry rs h k => ?_⟩
  · cases y <;> first | exact h _ _ q | exact q.elim
  · cases y with
    | non => exact ⟨ry, by rw [isNon_rep rx]; exact k _ S _ H h rfl rs (Ext.refl S H)⟩
    | _ => exact h.elim
/-- in: a text in a text, a plain thing in a list -/
def inTxt (x y : Str) : Bool := !(Builtin.Str.occurrences y x 0 y.length 1).isEmpty
def memD (x : Pv) (xs : List Pv) : Bool := (toDs xs).any fun z => PyData.eqv z (toD x)
def oIn (neg : Bool) : O2 := fun x y S Q => match x, y with
  | .str x, .str y => Q (.bl (if neg then !inTxt x y else inTxt x y)) S
  | x, y => match rdL S y with
    | some ys => (okD (top S x) = true ∧ okD (.lst ys) = true) ∧ Q (.bl (if neg then !memD (top S x) ys else memD (top S x) ys)) S
    | none => False
theorem dp_list {K : PySem.W.Frag} {H : Hp} {S : Sto} (rs : RepS K H S) {y : Pv} {u : V} {ys : List Pv} (ry : RepV K H S y u) (e : rdL S y = some ys) (d : isDs ys = true) : Dp K H u (.list (toDs ys)) := by
  obtain ⟨a, vs, rfl, h, r⟩ := rdL_rep rs ry e
  exact .lst h (dps_of ys vs r d)
theorem sim_in : Sim2 X.K (fun x y H Q => (∃ i j, x = .str i ∧ y = .str j ∧ Q (.bl (!(Builtin.Str.occurrences j i 0 j.length 1).isEmpty)) H) ∨ rInD X.K x y H Q) (oIn false) := by
  refine ⟨fun x y S Q Q' h q => ?_, fun x y S Qp v u H Q rx ry rs h k => ?_⟩
  · unfold oIn at q ⊢
    split at q
    · exact h _ _ q
    · split at q
      · exact ⟨q.1, h _ _ q.2⟩
      · exact q.elim
  · unfold oIn at h
    split at h
    · exact .inl ⟨_, _, rx, ry, k _ S _ H h rfl rs (Ext.refl S H)⟩
    · split at h
      · rename_i ys e
        obtain ⟨⟨h1, h2⟩, h3⟩ := h
        unfold okD at h1 h2
        rw [Bool.and_eq_true] at h1 h2
        exact .inr ⟨_, _, dp_top rs rx h1.1, dp_list rs ry e (by simpa [isD] using h2.1), h1.2, by simpa [toD] using h2.2, k _ S _ H h3 rfl rs (Ext.refl S H)⟩
      · exact h.elim
theorem sim_notIn : Sim2 X.K (fun x y H Q => (∃ i j, x = .str i ∧ y = .str j ∧ Q (.bl (!(!(Builtin.Str.occurrences j i 0 j.length 1).isEmpty))) H) ∨ rNotInD X.K x y H Q) (oIn true) := by
  refine ⟨fun x y S Q Q' h q => ?_, fun x y S Qp v u H Q rx ry rs h k => ?_⟩
  · unfold oIn at q ⊢
    split at q
    · exact h _ _ q
    · split at q
      · exact ⟨q.1, h _ _ q.2⟩
      · exact q.elim
  · unfold oIn at h
    split at h
    · exact .inl ⟨_, _, rx, ry, k _ S _ H h rfl rs (Ext.refl S H)⟩
    · split at h
      · rename_i ys e
        obtain ⟨⟨h1, h2⟩, h3⟩ := h
        unfold okD at h1 h2
        rw [Bool.and_eq_true] at h1 h2
        exact .inr ⟨_, _, dp_top rs rx h1.1, dp_list rs ry e (by simpa [isD] using h2.1), h1.2, by simpa [toD] using h2.2, k _ S _ H h3 rfl rs (Ext.refl S H)⟩
      · exact h.elim
theorem opIn (hu : X.A.units + 65 < cLine) : OpR X (compareOp .In) (fun x y H Q => (∃ i j, x = .str i ∧ y = .str j ∧ Q (.bl (!(Builtin.Str.occurrences j i 0 j.length 1).isEmpty)) H) ∨ rInD X.K x y H Q) := OpR.or op_in_str (op_inD hu)
theorem opNotIn (hu : X.A.units + 65 < cLine) : OpR X (compareOp .NotIn) (fun x y H Q => (∃ i j, x = .str i ∧ y = .str j ∧ Q (.bl (!(!(Builtin.Str.occurrences j i 0 j.length 1).isEmpty))) H) ∨ rNotInD X.K x y H Q) := OpR.or op_notin_str (op_notInD hu)
end
end PL

/-! The pure layer, part 3: subscripts, built-ins, statements, loops, comprehensions. -/
namespace PL
open PySem PySem.Spec PyProof.Rows L2
section
variable {X : Cx} {S0 : Sto} {H0 : Hp} {a b : Expr} {fa fb : PF} {pos : Pos}

/-! ### chains -/
def fChain (o o' : O2) (fa fb fc : PF) : PF := fun ρ S Q => fa ρ S fun x S1 => fb ρ S1 fun y S2 => o x y S2 fun z S3 => match z with
  | .bl k => cnd k (fc ρ S3 fun w S4 => o' y w S4 Q) (Q (.bl false) S3)
  | _ => False
theorem chain_mono {c : Expr} {fc : PF} {o o' : O2} (mo : ∀ x y S Q Q', (∀ p S', Q p S' → Q' p S') → o x y S Q → o x y S Q') (mo' : ∀ x y S Q Q', (∀ p S', Q p S' → Q' p S') → o' x y S Q → o' x y S Q')
    (ha : PV X S0 H0 a fa) (hb : PV X S0 H0 b fb) (hc : PV X S0 H0 c fc) : ∀ ρ S Q Q', (∀ p S', Q p S' → Q' p S') → fChain o o' fa fb fc ρ S Q → fChain o o' fa fb fc ρ S Q' :=
  fun ρ S Q Q' i q => ha.mono _ _ _ _ (fun x S1 q => hb.mono _ _ _ _ (fun y S2 q => mo _ _ _ _ _ (fun z S3 q => by
    cases z with
    | bl k => cases k with
      | true => exact hc.mono _ _ _ _ (fun w S4 q => mo' _ _ _ _ _ i q) q
      | false => exact i _ _ q
    | _ => exact q) q) q) q
theorem lift_chain {c : Expr} {fc : PF} {r r' : R2} {o o' : O2} (s : Sim2 X.K r o) (s' : Sim2 X.K r' o') (ha : PV X S0 H0 a fa) (hb : PV X S0 H0 b fb) (hc : PV X S0 H0 c fc) {σ : L2.St} {H : Hp} {Q : VK}
    (h : lift X.K S0 H0 (fChain o o' fa fb fc) σ H Q) : tChain r r' (lift X.K S0 H0 fa) (lift X.K S0 H0 fb) (lift X.K S0 H0 fc) σ H Q := by
  obtain ⟨ρ, S, re, rs, ex, q⟩ := h
  refine ⟨ρ, S, re, rs, ex, ha.mono _ _ _ _ (fun p S1 q v H1 rv rs1 ex1 => ?_) q⟩
  refine ⟨ρ, S1, re.ext rs ex1, rs1, ex.trans ex1, hb.mono _ _ _ _ (fun p' S2 q u H2 ru rs2 ex2 => ?_) q⟩
  refine s.run p p' S2 _ v u H2 _ (RepV.ext rs1 ex2 p v rv) ru rs2 q fun z S3 zv H3 q rz rs3 ex3 => ?_
  have e3 := (ex1.trans ex2).trans ex3
  cases z with
  | bl k =>
    refine ⟨k, rz, ?_⟩
    cases k with
    | true =>
      refine ⟨ρ, S3, re.ext rs e3, rs3, ex.trans e3, hc.mono _ _ _ _ (fun w S4 q wv H4 rw' rs4 ex4 => ?_) q⟩
      exact s'.run p' w S4 _ u wv H4 Q (RepV.ext rs2 (ex3.trans ex4) p' u ru) rw' rs4 q fun p5 S5 z5 H5 q r5 rs5 ex5 => q z5 H5 r5 rs5 ((e3.trans ex4).trans ex5)
    | false => exact q (.bl false) H3 rfl rs3 e3
  | _ => exact q.elim
theorem pv_chain {c : Expr} {fc : PF} {op op' : CmpOp} {r r' : R2} {o o' : O2} (ho : OpR X (compareOp op) r) (s : Sim2 X.K r o) (ho' : OpR X (compareOp op') r') (s' : Sim2 X.K r' o') (ha : PV X S0 H0 a fa) (hb : PV X S0 H0 b fb) (hc : PV X S0 H0 c fc)
    (hm : lastMarks [op, op'] [b, c] = false := by with_unfolding_all rfl) : PV X S0 H0 (.Compare a [op, op'] [b, c] pos) (fChain o o' fa fb fc) :=
  ⟨chain_mono s.mono s'.mono ha hb hc, PE.imp (pe_chain ho ho' ha.pe hb.pe hc.pe hm) fun _ _ _ h => lift_chain s s' ha hb hc h⟩
theorem pb_chain {c : Expr} {fc : PF} {op op' : CmpOp} {r r' : R2} {o o' : O2} (ho : OpR X (compareOp op) r) (s : Sim2 X.K r o) (ho' : OpR X (compareOp op') r') (s' : Sim2 X.K r' o') (ha : PV X S0 H0 a fa) (hb : PV X S0 H0 b fb) (hc : PV X S0 H0 c fc)
    (hm : lastMarks [op, op'] [b, c] = false := by with_unfolding_all rfl) : PB X S0 H0 (.Compare a [op, op'] [b, c] pos) (fBV (fChain o o' fa fb fc)) := by
  have h := pv_chain (pos := pos) ho s ho' s' ha hb hc hm
  refine ⟨fBV_mono h, PT.imp (pt_chain ho ho' ha.pe hb.pe hc.pe hm) fun σ H Q q => ?_⟩
  refine lift_chain s s' ha hb hc ?_
  obtain ⟨ρ, S, re, rs, ex, q⟩ := q
  refine ⟨ρ, S, re, rs, ex, h.mono _ _ _ _ (fun p S1 q v H1 rv rs1 ex1 => ?_) q⟩
  cases p with
  | bl b => exact ⟨b, rv, q H1 rs1 ex1⟩
  | _ => exact q.elim

/-! ### subscripts, slices -/
def oIx : O2 := fun x y S Q => match x, y with
  | .str z, .int i => z.length ≤ sizeLine ∧ (match atI z.cps.toList i with | some c => Q (.str ⟨#[c]⟩) S | none => False)
  | .tup xs, .int i => (match atI xs i with | some p => Q p S | none => False)
  | x, .int i => (match rdL S x with
    | some xs => (match atI xs i with | some p => Q p S | none => False)
    | none => False)
  | _, _ => False
theorem atI_rep {K : PySem.W.Frag} {H : Hp} {S : Sto} {xs : List Pv} {vs : List V} {i : Int} {p : Pv} (r : RepVs K H S xs vs) (h : atI xs i = some p) : ∃ v, atI vs i = some v ∧ RepV K H S p v := by
  unfold atI at h ⊢
  rw [r.len]
  cases e : ixN xs.length i with
  | none => rw [e] at h; cases h
  | some j =>
    rw [e] at h
    exact r.get h
theorem pv_ix (ha : PV X S0 H0 a fa) (hb : PV X S0 H0 b fb) (hs : PlainIx b := by exact fun _ _ => rfl) : PV X S0 H0 (.Subscript a b pos) (f2 oIx fa fb) := by
  have s : Sim2 X.K (rIx X.K) oIx := by
    refine ⟨fun x y S Q Q' h q => ?_, fun x y S Qp v u H Q rx ry rs h k => ?_⟩
    · unfold oIx at q ⊢
      split at q
      · refine ⟨q.1, ?_⟩
        have q := q.2
        split at q <;> first | exact h _ _ q | exact q.elim
      · split at q <;> first | exact h _ _ q | exact q.elim
      · split at q
        · rename_i e
          split at q <;> first | exact h _ _ q | exact q.elim
        · exact q.elim
      · exact q.elim
    · unfold oIx at h
      split at h
      · rename_i z i
        obtain ⟨hz, h⟩ := h
        split at h
        · rename_i c e
          exact .inr (.inr ⟨z, i, c, rx, ry, hz, e, k _ S _ H h rfl rs (Ext.refl S H)⟩)
        · exact h.elim
      · split at h
        · rename_i p e
          obtain ⟨q, vs, e1, hq, r⟩ := rx
          obtain ⟨v', e2, r2⟩ := atI_rep r e
          exact .inr (.inl ⟨q, vs, _, v', e1, ry, hq, e2, k _ S _ H h r2 rs (Ext.refl S H)⟩)
        · exact h.elim
      · split at h
        · rename_i xs e0
          split at h
          · rename_i p e
            obtain ⟨q, vs, e1, hq, r⟩ := rdL_rep rs rx e0
            obtain ⟨v', e2, r2⟩ := atI_rep r e
            exact .inl ⟨q, vs, _, v', e1, ry, hq, e2, k _ S _ H h r2 rs (Ext.refl S H)⟩
          · exact h.elim
        · exact h.elim
      · exact h.elim
  exact ⟨f2_mono s.mono ha hb, PE.imp (pe_ix ix_seq ha.pe hb.pe hs) fun _ _ _ h => lift2 s ha hb h⟩

/-- a slice's part -/
abbrev PFO := Env' → Sto → (Option Int → Sto → Prop) → Prop
def fNoPart : PFO := fun _ S Q => Q none S
def fPart (f : PF) : PFO := fun ρ S Q => f ρ S fun p S1 => match p with | .int i => Q (some i) S1 | _ => False
structure PVo (X : Cx) (S0 : Sto) (H0 : Hp) (e : Option Expr) (f : PFO) : Prop where
  mono : ∀ ρ S Q Q', (∀ p S', Q p S' → Q' p S') → f ρ S Q → f ρ S Q'
  po : PO X e fun σ H Q => ∃ ρ S, RepE X.K H S σ ρ ∧ RepS X.K H S ∧ Ext S0 H0 S H ∧ f ρ S fun o S' => ∀ H', RepS X.K H' S' → Ext S H S' H' → Q o H'
theorem pvo_none : PVo X S0 H0 none fNoPart := ⟨fun _ _ _ _ h q => h _ _ q, ⟨fun pins s σ H Q I ⟨ρ, S, _, rs, _, q⟩ => po_none.run pins s σ H Q I (q H rs (Ext.refl S H))⟩⟩
theorem pvo_some (h : PV X S0 H0 a fa) : PVo X S0 H0 (some a) (fPart fa) := by
  refine ⟨fun ρ S Q Q' i q => h.mono _ _ _ _ (fun p S1 q => by cases p <;> first | exact i _ _ q | exact q) q, ⟨fun pins s σ H Q I ⟨ρ, S, re, rs, ex, q⟩ => (po_some h.pe).run pins s σ H Q I ?_⟩⟩
  refine ⟨ρ, S, re, rs, ex, h.mono _ _ _ _ (fun p S1 q v H1 rv rs1 ex1 => ?_) q⟩
  cases p with
  | int i => exact ⟨i, rv, q H1 rs1 ex1⟩
  | _ => exact q.elim
def cutP (xs : List Pv) (lo hi : Option Int) : List Pv := (xs.drop (HT.sIx xs.length 0 lo)).take (HT.sIx xs.length xs.length hi - HT.sIx xs.length 0 lo)
def oSl (x : Pv) (lo hi : Option Int) (S : Sto) (Q : QV) : Prop := match x with
  | .str z => z.length ≤ sizeLine ∧ Q (.str (cutS z lo hi)) S
  | .tup xs => Q (.tup (cutP xs lo hi)) S
  | x => match rdL S x with
    | some xs => Q (.lst (cutP xs lo hi)) S
    | none => False
def fSl (fa : PF) (fl fh : PFO) : PF := fun ρ S Q => fa ρ S fun x S1 => fl ρ S1 fun l S2 => fh ρ S2 fun h S3 => oSl x l h S3 Q
theorem cut_rep {K : PySem.W.Frag} {H : Hp} {S : Sto} {xs : List Pv} {vs : List V} (r : RepVs K H S xs vs) (lo hi : Option Int) : RepVs K H S (cutP xs lo hi) (cutV vs lo hi) := by
  unfold cutP cutV
  rw [r.len]
  exact (r.drop _).take _
theorem cutP_all {xs : List Pv} {lo hi : Option Int} (h1 : HT.sIx xs.length 0 lo = 0) (h2 : HT.sIx xs.length xs.length hi = xs.length) : cutP xs lo hi = xs := by
  unfold cutP
  rw [h1, h2, List.drop_zero, Nat.sub_zero, List.take_length]
theorem oSl_mono {x : Pv} {lo hi : Option Int} {S : Sto} {Q Q' : QV} (i : ∀ p S', Q p S' → Q' p S') (q : oSl x lo hi S Q) : oSl x lo hi S Q' := by
  unfold oSl at q ⊢
  split at q
  · exact ⟨q.1, i _ _ q.2⟩
  · exact i _ _ q
  · split at q
    · exact i _ _ q
    · exact q.elim
theorem pv_slice {lo hi : Option Expr} {fl fh : PFO} {p2 : Pos} (ha : PV X S0 H0 a fa) (hl : PVo X S0 H0 lo fl) (hh : PVo X S0 H0 hi fh) : PV X S0 H0 (.Subscript a (.Slice lo hi none p2) pos) (fSl fa fl fh) := by
  refine ⟨fun ρ S Q Q' i q => ha.mono _ _ _ _ (fun x S1 q => hl.mono _ _ _ _ (fun l S2 q => hh.mono _ _ _ _ (fun h S3 q => oSl_mono i q) q) q) q, PE.imp (pe_slice (SlR.or sl_str (SlR.or sl_tupA sl_list)) ha.pe hl.po hh.po) fun σ H Q ⟨ρ, S, re, rs, ex, q⟩ => ?_⟩
  refine ⟨ρ, S, re, rs, ex, ha.mono _ _ _ _ (fun x S1 q v H1 rv rs1 ex1 => ?_) q⟩
  refine ⟨ρ, S1, re.ext rs ex1, rs1, ex.trans ex1, hl.mono _ _ _ _ (fun l S2 q H2 rs2 ex2 => ?_) q⟩
  have e2 := ex1.trans ex2
  refine ⟨ρ, S2, re.ext rs e2, rs2, ex.trans e2, hh.mono _ _ _ _ (fun h S3 q H3 rs3 ex3 => ?_) q⟩
  have e3 := e2.trans ex3
  have rv3 := RepV.ext rs1 (ex2.trans ex3) x v rv
  unfold oSl at q
  split at q
  · exact .inl ⟨_, rv3, q.1, q.2 _ H3 rfl rs3 e3⟩
  · rename_i xs
    have rv4 := rv3
    obtain ⟨t, vs, e, hq, r⟩ := rv3
    refine .inr (.inl ⟨t, vs, e, hq, fun z => ?_, fun _ p np => ?_⟩)
    · rw [r.len] at z
      rw [cutP_all z.1 z.2] at q
      exact q _ H3 (e ▸ rv4) rs3 e3
    · obtain ⟨a1, a2, a3⟩ := newT_k rs3 np (cut_rep r l h)
      exact q _ _ a1 a2 (e3.trans a3)
  · split at q
    · rename_i xs e0
      obtain ⟨t, vs, e, hq, r⟩ := rdL_rep rs3 rv3 e0
      refine .inr (.inr ⟨t, vs, e, hq, fun p np => ?_⟩)
      obtain ⟨a1, a2, a3⟩ := newL_k rs3 np (cut_rep r l h)
      exact q _ _ a1 a2 (e3.trans a3)
    · exact q.elim

/-! ### built-ins -/
def lenP (S : Sto) : Pv → Option Nat
  | .str z => if z.length ≤ sizeLine then some z.length else none
  | .tup xs => some xs.length
  | x => (rdL S x).map (·.length)
def oLen : On := fun ps S Q => match ps with
  | [x] => (match lenP S x with | some n => Q (.int n) S | none => False)
  | _ => False
theorem one_mono {o : O1} {o' : On} (m : ∀ x S Q Q', (∀ p S', Q p S' → Q' p S') → o x S Q → o x S Q') (e : ∀ ps S Q, o' ps S Q ↔ ∃ x, ps = [x] ∧ o x S Q) : ∀ x S Q Q', (∀ p S', Q p S' → Q' p S') → o' x S Q → o' x S Q' := fun x S Q Q' h q => by
  obtain ⟨y, e1, q⟩ := (e _ _ _).mp q
  exact (e _ _ _).mpr ⟨y, e1, m _ _ _ _ h q⟩
theorem sim_len : SimN X.K (fun xs H Q => (∃ z, xs = [.str z] ∧ z.length ≤ sizeLine ∧ Q (.int z.length) H) ∨ (∃ p ys, xs = [.ref p] ∧ (SqL X.K H p ys ∨ SqT X.K H p ys) ∧ Q (.int ys.length) H)) oLen := by
  refine ⟨fun x S Q Q' h q => ?_, fun x S Qp v H Q rx rs h k => ?_⟩
  · unfold oLen at q ⊢
    split at q
    · split at q <;> first | exact h _ _ q | exact q.elim
    · exact q.elim
  · unfold oLen at h
    split at h
    · rename_i y
      obtain ⟨v1, rfl, r1⟩ := rx.one
      split at h
      · rename_i n e
        cases y with
        | str z =>
          simp only [lenP] at e
          split at e
          · rename_i hz
            cases e
            exact .inl ⟨z, by rw [show v1 = .str z from r1], hz, k _ S _ H h rfl rs (Ext.refl S H)⟩
          · cases e
        | tup xs =>
          simp only [lenP, Option.some.injEq] at e
          obtain ⟨t, vs, e1, hq, r⟩ := r1
          exact .inr ⟨t, vs, by rw [e1], .inr hq, by rw [r.len, e]; exact k _ S _ H h rfl rs (Ext.refl S H)⟩
        | lst xs =>
          obtain ⟨t, vs, e1, hq, r⟩ := rdL_rep (xs := xs) rs r1 rfl
          have e : xs.length = n := by simpa [lenP, rdL] using e
          exact .inr ⟨t, vs, by rw [e1], .inl hq, by rw [r.len, e]; exact k _ S _ H h rfl rs (Ext.refl S H)⟩
        | scr xs =>
          obtain ⟨t, vs, e1, hq, r⟩ := rdL_rep (xs := xs) rs r1 rfl
          have e : xs.length = n := by simpa [lenP, rdL] using e
          exact .inr ⟨t, vs, by rw [e1], .inl hq, by rw [r.len, e]; exact k _ S _ H h rfl rs (Ext.refl S H)⟩
        | ref b =>
          simp only [lenP, Option.map_eq_some_iff] at e
          obtain ⟨xs, e0, e⟩ := e
          obtain ⟨t, vs, e1, hq, r⟩ := rdL_rep rs r1 e0
          exact .inr ⟨t, vs, by rw [e1], .inl hq, by rw [r.len, e]; exact k _ S _ H h rfl rs (Ext.refl S H)⟩
        | _ => simp [lenP, rdL] at e
      · exact h.elim
    · exact h.elim
variable {e : Expr} {es : List Expr} {fs : PFs} {p : Pos}
theorem pv_len (hm : X.mg "len" = none) (ha : PVs X S0 H0 [a] fs) (hg : Gl X "len" := by rfl) (he : starEach (a :: []) X.env = (false, eval a X.env) :: starEach [] X.env := by rfl) (hpl : (backTo pos (starEach [] X.env)).any (·.1) = false := by rfl) : PV X S0 H0 (.Call (.Name "len" p) [a] [] pos) (fN oLen fs) :=
  pv_callB (CallR.or call_len_str call_len_seq) sim_len hg hm PySem.boot_len ha (by decide) (by decide) he hpl
def oAbs : On := fun ps S Q => match ps with
  | [.int i] => Q (.int (if i < 0 then -i else i)) S
  | _ => False
theorem pv_abs (hm : X.mg "abs" = none) (ha : PVs X S0 H0 [a] fs) (hg : Gl X "abs" := by rfl) (he : starEach (a :: []) X.env = (false, eval a X.env) :: starEach [] X.env := by rfl) (hpl : (backTo pos (starEach [] X.env)).any (·.1) = false := by rfl) : PV X S0 H0 (.Call (.Name "abs" p) [a] [] pos) (fN oAbs fs) := by
  refine pv_callB call_abs ⟨fun x S Q Q' h q => ?_, fun x S Qp v H Q rx rs h k => ?_⟩ hg hm (by decide +kernel) ha (by decide) (by decide) he hpl
  · unfold oAbs at q ⊢
    split at q <;> first | exact h _ _ q | exact q.elim
  · unfold oAbs at h
    split at h
    · obtain ⟨v1, rfl, r1⟩ := rx.one
      exact ⟨_, by rw [show v1 = _ from r1], k _ S _ H h rfl rs (Ext.refl S H)⟩
    · exact h.elim
def oMax : On := fun ps S Q => match ps with
  | [.int i, .int j] => Q (.int (if j > i then j else i)) S
  | _ => False
def oMin : On := fun ps S Q => match ps with
  | [.int i, .int j] => Q (.int (if j < i then j else i)) S
  | _ => False
theorem pv_max (hc : X.calm = true) (hm : X.mg "max" = none) (ha : PVs X S0 H0 [a, b] fs) (hg : Gl X "max" := by rfl) (he : starEach (a :: [b]) X.env = (false, eval a X.env) :: starEach [b] X.env := by rfl) (hpl : (backTo pos (starEach [b] X.env)).any (·.1) = false := by rfl) : PV X S0 H0 (.Call (.Name "max" p) [a, b] [] pos) (fN oMax fs) := by
  refine pv_callB (call_max2 hc) ⟨fun x S Q Q' h q => ?_, fun x S Qp v H Q rx rs h k => ?_⟩ hg hm (by decide +kernel) ha (by decide) (by decide) he hpl
  · unfold oMax at q ⊢
    split at q <;> first | exact h _ _ q | exact q.elim
  · unfold oMax at h
    split at h
    · obtain ⟨v1, v2, rfl, r1, r2⟩ := rx.two
      exact ⟨_, _, by rw [show v1 = _ from r1, show v2 = _ from r2], k _ S _ H h rfl rs (Ext.refl S H)⟩
    · exact h.elim
theorem pv_min (hc : X.calm = true) (hm : X.mg "min" = none) (ha : PVs X S0 H0 [a, b] fs) (hg : Gl X "min" := by rfl) (he : starEach (a :: [b]) X.env = (false, eval a X.env) :: starEach [b] X.env := by rfl) (hpl : (backTo pos (starEach [b] X.env)).any (·.1) = false := by rfl) : PV X S0 H0 (.Call (.Name "min" p) [a, b] [] pos) (fN oMin fs) := by
  refine pv_callB (call_min2 hc) ⟨fun x S Q Q' h q => ?_, fun x S Qp v H Q rx rs h k => ?_⟩ hg hm (by decide +kernel) ha (by decide) (by decide) he hpl
  · unfold oMin at q ⊢
    split at q <;> first | exact h _ _ q | exact q.elim
  · unfold oMin at h
    split at h
    · obtain ⟨v1, v2, rfl, r1, r2⟩ := rx.two
      exact ⟨_, _, by rw [show v1 = _ from r1, show v2 = _ from r2], k _ S _ H h rfl rs (Ext.refl S H)⟩
    · exact h.elim
def oInt : On := fun ps S Q => match ps with
  | [.int i] => Q (.int i) S
  | [.bl c] => Q (.int (if c then 1 else 0)) S
  | _ => False
theorem pv_intOf (hm : X.mg "int" = none) (ha : PVs X S0 H0 [a] fs) (hg : Gl X "int" := by rfl) (he : starEach (a :: []) X.env = (false, eval a X.env) :: starEach [] X.env := by rfl) (hpl : (backTo pos (starEach [] X.env)).any (·.1) = false := by rfl) : PV X S0 H0 (.Call (.Name "int" p) [a] [] pos) (fN oInt fs) := by
  refine pv_callTy call_int1 ⟨fun x S Q Q' h q => ?_, fun x S Qp v H Q rx rs h k => ?_⟩ hg hm (by decide +kernel) ha (by decide) (by decide) he hpl
  · unfold oInt at q ⊢
    split at q <;> first | exact h _ _ q | exact q.elim
  · unfold oInt at h
    split at h
    · obtain ⟨v1, rfl, r1⟩ := rx.one
      exact .inl ⟨_, by rw [show v1 = _ from r1], k _ S _ H h rfl rs (Ext.refl S H)⟩
    · obtain ⟨v1, rfl, r1⟩ := rx.one
      exact .inr ⟨_, by rw [show v1 = _ from r1], k _ S _ H h rfl rs (Ext.refl S H)⟩
    · exact h.elim
def oTuple : On := fun ps S Q => match ps with
  | [.tup xs] => Q (.tup xs) S
  | [x] => (match rdL S x with | some xs => Q (.tup xs) S | none => False)
  | _ => False
theorem pv_tupleOf (hm : X.mg "tuple" = none) (ha : PVs X S0 H0 [a] fs) (hg : Gl X "tuple" := by rfl) (he : starEach (a :: []) X.env = (false, eval a X.env) :: starEach [] X.env := by rfl) (hpl : (backTo pos (starEach [] X.env)).any (·.1) = false := by rfl) : PV X S0 H0 (.Call (.Name "tuple" p) [a] [] pos) (fN oTuple fs) := by
  refine pv_callTy call_tuple_of ⟨fun x S Q Q' h q => ?_, fun x S Qp v H Q rx rs h k => ?_⟩ hg hm (by decide +kernel) ha (by decide) (by decide) he hpl
  · unfold oTuple at q ⊢
    split at q
    · exact h _ _ q
    · split at q <;> first | exact h _ _ q | exact q.elim
    · exact q.elim
  · unfold oTuple at h
    split at h
    · obtain ⟨v1, rfl, r1⟩ := rx.one
      have r2 := r1
      obtain ⟨t, vs, e1, hq, r⟩ := r1
      exact ⟨t, vs, by rw [e1], .inr ⟨hq, k _ S _ H h (e1 ▸ r2) rs (Ext.refl S H)⟩⟩
    · obtain ⟨v1, rfl, r1⟩ := rx.one
      split at h
      · rename_i e0
        obtain ⟨t, vs, e1, hq, r⟩ := rdL_rep rs r1 e0
        refine ⟨t, vs, by rw [e1], .inl ⟨hq, fun q nq => ?_⟩⟩
        obtain ⟨a1, a2, a3⟩ := newT_k rs nq r
        exact k _ S _ _ h a1 a2 a3
      · exact h.elim
    · exact h.elim
def seqP (S : Sto) : Pv → Option (List Pv)
  | .tup xs => some xs
  | x => rdL S x
def oList : On := fun ps S Q => match ps with
  | [x] => (match seqP S x with | some xs => Q (.lst xs) S | none => False)
  | _ => False
def oListT : On := fun ps S Q => match ps with
  | [x] => (match seqP S x with | some xs => ∀ a, S a = none → Q (.ref a) (put S a (.lst xs)) | none => False)
  | _ => False
theorem seq_rep {K : PySem.W.Frag} {H : Hp} {S : Sto} (rs : RepS K H S) {x : Pv} {v : V} {xs : List Pv} (h : RepV K H S x v) (e : seqP S x = some xs) : ∃ a vs, v = .ref a ∧ (SqL K H a vs ∨ SqT K H a vs) ∧ RepVs K H S xs vs := by
  cases x with
  | tup ys =>
    have e' : ys = xs := by simpa [seqP] using e
    subst e'
    obtain ⟨t, vs, e1, hq, r⟩ := h
    exact ⟨t, vs, e1, .inr hq, r⟩
  | _ =>
    obtain ⟨t, vs, e1, hq, r⟩ := rdL_rep rs h (by simpa [seqP] using e)
    exact ⟨t, vs, e1, .inl hq, r⟩
theorem pv_listOf (hm : X.mg "list" = none) (ha : PVs X S0 H0 [a] fs) (hg : Gl X "list" := by rfl) (he : starEach (a :: []) X.env = (false, eval a X.env) :: starEach [] X.env := by rfl) (hpl : (backTo pos (starEach [] X.env)).any (·.1) = false := by rfl) : PV X S0 H0 (.Call (.Name "list" p) [a] [] pos) (fN oList fs) := by
  refine pv_callTy call_list_of ⟨fun x S Q Q' h q => ?_, fun x S Qp v H Q rx rs h k => ?_⟩ hg hm (by decide +kernel) ha (by decide) (by decide) he hpl
  · unfold oList at q ⊢
    split at q
    · split at q <;> first | exact h _ _ q | exact q.elim
    · exact q.elim
  · unfold oList at h
    split at h
    · obtain ⟨v1, rfl, r1⟩ := rx.one
      split at h
      · rename_i e0
        obtain ⟨t, vs, e1, hq, r⟩ := seq_rep rs r1 e0
        refine ⟨t, vs, by rw [e1], hq, fun q nq => ?_⟩
        obtain ⟨a1, a2, a3⟩ := newL_k rs nq r
        exact k _ S _ _ h a1 a2 a3
      · exact h.elim
    · exact h.elim
theorem pv_listOfT (hm : X.mg "list" = none) (ha : PVs X S0 H0 [a] fs) (hg : Gl X "list" := by rfl) (he : starEach (a :: []) X.env = (false, eval a X.env) :: starEach [] X.env := by rfl) (hpl : (backTo pos (starEach [] X.env)).any (·.1) = false := by rfl) : PV X S0 H0 (.Call (.Name "list" p) [a] [] pos) (fN oListT fs) := by
  refine pv_callTy call_list_of ⟨fun x S Q Q' h q => ?_, fun x S Qp v H Q rx rs h k => ?_⟩ hg hm (by decide +kernel) ha (by decide) (by decide) he hpl
  · unfold oListT at q ⊢
    split at q
    · split at q
      · exact fun a ha => h _ _ (q a ha)
      · exact q.elim
    · exact q.elim
  · unfold oListT at h
    split at h
    · obtain ⟨v1, rfl, r1⟩ := rx.one
      split at h
      · rename_i e0
        obtain ⟨t, vs, e1, hq, r⟩ := seq_rep rs r1 e0
        refine ⟨t, vs, by rw [e1], hq, fun q nq => ?_⟩
        exact k _ _ _ _ (h q (rs.fr nq)) rfl (rs.newL nq r) (Ext.newS nq)
      · exact h.elim
    · exact h.elim
/-- all, any of a list of truths -/
def allBl : List Pv → Option (List Bool)
  | [] => some []
  | .bl b :: ps => (allBl ps).map (b :: ·)
  | _ => none
theorem allBl_rep {K : PySem.W.Frag} {H : Hp} {S : Sto} : ∀ {ps : List Pv} {vs : List V} {bs : List Bool}, RepVs K H S ps vs → allBl ps = some bs → vs = bs.map V.bl
  | [], vs, bs, r, e => by
    have e1 : vs = [] := r
    have e2 : [] = bs := by simpa [allBl] using e
    rw [e1, ← e2]; rfl
  | .bl b :: ps, vs, bs, ⟨v, q, e1, r1, r2⟩, e => by
    simp only [allBl, Option.map_eq_some_iff] at e
    obtain ⟨cs, e2, e3⟩ := e
    rw [e1, ← e3, show v = .bl b from r1, allBl_rep r2 e2]; rfl
  | .non :: ps, _, _, _, e => by simp [allBl] at e
  | .int _ :: ps, _, _, _, e => by simp [allBl] at e
  | .str _ :: ps, _, _, _, e => by simp [allBl] at e
  | .tup _ :: ps, _, _, _, e => by simp [allBl] at e
  | .lst _ :: ps, _, _, _, e => by simp [allBl] at e
  | .scr _ :: ps, _, _, _, e => by simp [allBl] at e
  | .dct _ _ :: ps, _, _, _, e => by simp [allBl] at e
  | .ref _ :: ps, _, _, _, e => by simp [allBl] at e
  | .ty _ :: ps, _, _, _, e => by simp [allBl] at e
def oAll : On := fun ps S Q => match ps with
  | [x] => (match (rdL S x).bind allBl with | some bs => Q (.bl (bs.all id)) S | none => False)
  | _ => False
def oAny : On := fun ps S Q => match ps with
  | [x] => (match (rdL S x).bind allBl with | some bs => Q (.bl (bs.any id)) S | none => False)
  | _ => False
theorem pv_all (hc : X.calm = true) (hm : X.mg "all" = none) (ha : PVs X S0 H0 [a] fs) (hg : Gl X "all" := by rfl) (he : starEach (a :: []) X.env = (false, eval a X.env) :: starEach [] X.env := by rfl) (hpl : (backTo pos (starEach [] X.env)).any (·.1) = false := by rfl) : PV X S0 H0 (.Call (.Name "all" p) [a] [] pos) (fN oAll fs) := by
  refine pv_callB (cr_all hc) ⟨fun x S Q Q' h q => ?_, fun x S Qp v H Q rx rs h k => ?_⟩ hg hm (by decide +kernel) ha (by decide) (by decide) he hpl
  · unfold oAll at q ⊢
    split at q
    · split at q <;> first | exact h _ _ q | exact q.elim
    · exact q.elim
  · unfold oAll at h
    split at h
    · obtain ⟨v1, rfl, r1⟩ := rx.one
      split at h
      · rename_i bs e
        rw [Option.bind_eq_some_iff] at e
        obtain ⟨xs, e0, e⟩ := e
        obtain ⟨t, vs, e1, hq, r⟩ := rdL_rep rs r1 e0
        rw [allBl_rep r e] at hq
        exact ⟨t, bs, by rw [e1], hq, k _ S _ H h rfl rs (Ext.refl S H)⟩
      · exact h.elim
    · exact h.elim
theorem pv_any (hc : X.calm = true) (hm : X.mg "any" = none) (ha : PVs X S0 H0 [a] fs) (hg : Gl X "any" := by rfl) (he : starEach (a :: []) X.env = (false, eval a X.env) :: starEach [] X.env := by rfl) (hpl : (backTo pos (starEach [] X.env)).any (·.1) = false := by rfl) : PV X S0 H0 (.Call (.Name "any" p) [a] [] pos) (fN oAny fs) := by
  refine pv_callB (cr_any hc) ⟨fun x S Q Q' h q => ?_, fun x S Qp v H Q rx rs h k => ?_⟩ hg hm (by decide +kernel) ha (by decide) (by decide) he hpl
  · unfold oAny at q ⊢
    split at q
    · split at q <;> first | exact h _ _ q | exact q.elim
    · exact q.elim
  · unfold oAny at h
    split at h
    · obtain ⟨v1, rfl, r1⟩ := rx.one
      split at h
      · rename_i bs e
        rw [Option.bind_eq_some_iff] at e
        obtain ⟨xs, e0, e⟩ := e
        obtain ⟨t, vs, e1, hq, r⟩ := rdL_rep rs r1 e0
        rw [allBl_rep r e] at hq
        exact ⟨t, bs, by rw [e1], hq, k _ S _ H h rfl rs (Ext.refl S H)⟩
      · exact h.elim
    · exact h.elim
/-! ### repr -/
mutual
/-- plain data with empty dicts in it, but no lists -/
def isE : Pv → Bool
  | .non => true | .bl _ => true | .int _ => true | .str _ => true | .tup xs => isEs xs | .dct ks vs => ks.isEmpty && vs.isEmpty | .lst _ => false | .scr _ => false | .ref _ => false | .ty _ => false
def isEs : List Pv → Bool
  | [] => true
  | p :: ps => isE p && isEs ps
end
mutual
inductive DpE (K : PySem.W.Frag) (H : Hp) : V → PyData → Prop
  | non : DpE K H .non .none
  | bl (b : Bool) : DpE K H (.bl b) (.bool b)
  | int (i : Int) : DpE K H (.int i) (.int i)
  | str (x : Str) : DpE K H (.str x) (.str x)
  | dic {a : Addr} : Rd H a (.dK []) → DpE K H (.ref a) (.dict [])
  | tup {a : Addr} {xs : List V} {ds : List PyData} : SqT K H a xs → DpEs K H xs ds → DpE K H (.ref a) (.tuple ds)
inductive DpEs (K : PySem.W.Frag) (H : Hp) : List V → List PyData → Prop
  | nil : DpEs K H [] []
  | cons {v : V} {vs : List V} {d : PyData} {ds : List PyData} : DpE K H v d → DpEs K H vs ds → DpEs K H (v :: vs) (d :: ds)
end
section
variable {pins : List (Addr × Obj)} {σ : L2.St} {H : Hp} {s : Shared} {S : Sto}
mutual
theorem dpe_of : ∀ (p : Pv) (v : V), RepV X.K H S p v → isE p = true → DpE X.K H v (toD p)
  | .non, v, h, _ => by have e : v = _ := h; subst e; exact .non
  | .bl b, v, h, _ => by have e : v = _ := h; subst e; exact .bl b
  | .int b, v, h, _ => by have e : v = _ := h; subst e; exact .int b
  | .str b, v, h, _ => by have e : v = _ := h; subst e; exact .str b
  | .tup ps, _, ⟨a, vs, e, h, r⟩, d => by subst e; exact .tup h (dpes_of ps vs r d)
  | .dct ks ps, _, ⟨a, kvs, e, h, hs, r1, r2⟩, d => by
    subst e
    have d' : ks.isEmpty = true ∧ ps.isEmpty = true := by simpa [isE] using d
    have e1 : kvs = [] := by
      have := r1.len
      rw [List.isEmpty_iff.mp d'.1] at this
      exact List.length_eq_zero_iff.mp (by simpa using this)
    subst e1
    exact .dic h
  | .lst _, _, _, d => by cases d
  | .scr _, _, _, d => by cases d
  | .ref _, _, _, d => by cases d
  | .ty _, _, _, d => by cases d
theorem dpes_of : ∀ (ps : List Pv) (vs : List V), RepVs X.K H S ps vs → isEs ps = true → DpEs X.K H vs (toDs ps)
  | [], _, h, _ => by have e : _ = [] := h; subst e; exact .nil
  | p :: ps, _, ⟨v, r, e, h1, h2⟩, d => by
    subst e
    have d' : isE p = true ∧ isEs ps = true := by simpa [isEs] using d
    exact .cons (dpe_of p v h1 d'.1) (dpes_of ps r h2 d'.2)
end
mutual
theorem DpE.reads (I : Inv X pins σ H s) : ∀ (d : PyData) (v : V) (u : Value), DpE X.K H v d → RelV v u → ∃ as, Reads s.heap u d as ∧ sysModules ∉ as
  | .none, _, _, h, r => by cases h; cases r; exact ⟨_, Reads.none, by simp⟩
  | .bool b, _, _, h, r => by cases h; cases r; exact ⟨_, Reads.bool b, by simp⟩
  | .int i, _, _, h, r => by cases h; obtain ⟨t, rfl⟩ := r; exact ⟨_, Reads.int i t, by simp⟩
  | .str x, _, _, h, r => by cases h; obtain ⟨t, rfl⟩ := r; exact ⟨_, Reads.str x t, by simp⟩
  | .list ds, _, _, h, r => by cases h
  | .tuple ds, _, _, h, r => by
    cases h with
    | tup hs ha =>
      cases r
      obtain ⟨its, rv, ⟨o, ho, hc, n, hd⟩, _⟩ := I.tuple hs
      obtain ⟨as, hr, hn⟩ := DpE.readsAll I ds _ its ha rv
      exact ⟨_, Reads.tuple ho hc hd hr, hn⟩
  | .dict kvs, _, _, h, r => by
    cases h with
    | dic hd =>
      rename_i a
      obtain rfl : _ = Value.ref a := r
      obtain ⟨_, hsm, vs, rel, o, es, ep, ho, hx, hdt, _, hp, _⟩ := dk_rd I.hok hd
      have ev : vs = [] := by cases rel; rfl
      subst ev
      have ee : es.toList = [] := by
        cases hes : es.toList with
        | nil => rfl
        | cons e r => rw [hes] at hp; cases hp
      refine ⟨_, Reads.dict (kvs := []) ho hx.1 hdt (by rw [ee]; exact .nil) (by rw [ee]; exact .nil), ?_⟩
      intro z
      have : sysModules = a := by simpa using z
      rw [this] at hsm
      simp at hsm
theorem DpE.readsAll (I : Inv X pins σ H s) : ∀ (ds : List PyData) (vs : List V) (us : List Value), DpEs X.K H vs ds → Vals vs us → ∃ as, ReadsAll s.heap us ds as ∧ sysModules ∉ as
  | [], _, _, h, r => by cases h; cases r; exact ⟨_, ReadsAll.nil, by simp⟩
  | d :: ds, _, _, h, r => by
    cases h with
    | cons h1 h2 =>
      cases r with
      | cons r1 r2 =>
        obtain ⟨as, q1, n1⟩ := DpE.reads I d _ _ h1 r1
        obtain ⟨bs, q2, n2⟩ := DpE.readsAll I ds _ _ h2 r2
        exact ⟨_, ReadsAll.cons q1 q2, by rw [List.mem_append]; exact fun z => z.elim n1 n2⟩
end
end
def okR (p : Pv) : Prop := (isD p || isE p) = true ∧ (toD p).showable = true ∧ (toD p).depth ≤ 60 ∧ (toD p).shown.length ≤ sizeLine
def oRepr : On := fun ps S Q => match ps with
  | [x] => okR (top S x) ∧ ∀ z, z = (toD (top S x)).shown → Q (.str z) S
  | _ => False
theorem Dp.nodict {K : PySem.W.Frag} : ∀ p : Pv, isD p = true → (toD p).hasDict = false := by
  intro p
  refine Pv.rec (motive_1 := fun p => isD p = true → (toD p).hasDict = false) (motive_2 := fun ps => isDs ps = true → PyData.hasDictAll (toDs ps) = false) ?_ ?_ ?_ ?_ ?_ ?_ ?_ ?_ ?_ ?_ ?_ ?_ p <;> intros <;> simp_all [isD, isDs, toD, toDs, PyData.hasDict, PyData.hasDictAll]
def rRepr (K : PySem.W.Frag) : List V → Hp → VK → Prop := fun xs H Q => ∃ x d, xs = [x] ∧ ((Dp K H x d ∧ d.hasDict = false) ∨ DpE K H x d) ∧ d.showable = true ∧ d.depth ≤ 60 ∧ d.shown.length ≤ sizeLine ∧ Q (.str d.shown) H
theorem call_reprD (hg : X.A.guards = some []) (hu : X.A.units + 64 < cLine) : CallR X (.builtin "repr") (rRepr X.K) := by
  intro pins s σ H xs us Q I r h
  obtain ⟨x, d, rfl, hd, h1, h2, h4, q⟩ := h
  obtain ⟨u, rfl, ru⟩ : ∃ u, us = [u] ∧ RelV x u := by
    cases r with
    | cons r rr => cases rr; exact ⟨_, rfl, r⟩
  have main : ∃ as, Reads s.heap u d as ∧ (d.hasDict = true → sysModules ∉ as) := by
    rcases hd with ⟨hd, h3⟩ | hd
    · obtain ⟨as, rd⟩ := Dp.reads I _ _ _ hd ru
      exact ⟨as, rd, fun e => by rw [h3] at e; cases e⟩
    · obtain ⟨as, rd, hn⟩ := DpE.reads I _ _ _ hd ru
      exact ⟨as, rd, fun _ => hn⟩
  obtain ⟨as, rd, hsm⟩ := main
  have fin : ∀ (a : Addr), u = .ref a → wpAny (model X.prog X.w) X.A (call (.builtin "repr") [u]) (EP X pins σ Q) X.xe s := by
    intro a e
    subst e
    exact repr_of_reads' rd h1 hsm hg (by omega) (fun _ _ e => e) (fun h' u tk hk => ⟨.str _, H, I.kept (t' := tk) hk, ⟨u, rfl⟩, q⟩) h4
  cases rd with
  | none => exact PySem.P.repr_of_none ⟨.str _, H, I.tok _, ⟨_, rfl⟩, by simpa [PyData.shown] using q⟩
  | bool b => exact PySem.P.repr_of_bool ⟨.str _, H, I.tok _, ⟨_, rfl⟩, by simpa [PyData.shown] using q⟩
  | int i t => exact PySem.P.repr_of_int (by simpa [PyData.showable] using h1) ⟨.str _, H, I.tok _, ⟨_, rfl⟩, by simpa [PyData.shown] using q⟩
  | str y t => exact PySem.P.repr_of_str ⟨.str _, H, I.tok _, ⟨_, rfl⟩, by simpa [PyData.shown] using q⟩ (by simpa [PyData.shown] using h4)
  | list => exact fin _ rfl
  | tuple => exact fin _ rfl
  | dict => exact fin _ rfl
theorem pv_repr (hg0 : X.A.guards = some []) (hu : X.A.units + 64 < cLine) (hm : X.mg "repr" = none) (ha : PVs X S0 H0 [a] fs) (hg : Gl X "repr" := by rfl) (he : starEach (a :: []) X.env = (false, eval a X.env) :: starEach [] X.env := by rfl) (hpl : (backTo pos (starEach [] X.env)).any (·.1) = false := by rfl) : PV X S0 H0 (.Call (.Name "repr" p) [a] [] pos) (fN oRepr fs) := by
  refine pv_callB (call_reprD hg0 hu) ⟨fun x S Q Q' h q => ?_, fun x S Qp v H Q rx rs h k => ?_⟩ hg hm (by decide +kernel) ha (by decide) (by decide) he hpl
  · unfold oRepr at q ⊢
    split at q
    · exact ⟨q.1, fun z e => h _ _ (q.2 z e)⟩
    · exact q.elim
  · unfold oRepr at h
    split at h
    · rename_i y
      obtain ⟨v1, rfl, r1⟩ := rx.one
      obtain ⟨⟨h1, h2, h3, h4⟩, h⟩ := h
      refine ⟨v1, _, rfl, ?_, h2, h3, h4, k _ S _ H (h _ rfl) rfl rs (Ext.refl S H)⟩
      cases hd : isD (top S y) with
      | true => exact .inl ⟨dp_top rs r1 hd, Dp.nodict (K := X.K) _ hd⟩
      | false =>
        rw [hd, Bool.false_or] at h1
        right
        cases y with
        | ref a =>
          have e1 : v1 = .ref a := r1
          subst e1
          cases hs : S a with
          | none => simp [top, hs, isE] at h1
          | some m =>
            cases m with
            | lst xs => simp [top, hs, isE] at h1
            | tab n => simp [top, hs, isE] at h1
            | exc C => simp [top, hs, isE] at h1
            | lck o kvs => simp [top, hs, isE] at h1
            | dct ks vs =>
              obtain ⟨kvs, e2, r3, r4⟩ := rs a _ hs
              have h1' : ks = [] ∧ vs = [] := by simpa [top, hs, isE] using h1
              have e3 : kvs = [] := by
                have := r3.len
                rw [h1'.1] at this
                exact List.length_eq_zero_iff.mp (by simpa using this)
              subst e3
              simp only [top, hs, toD]
              exact .dic (.inl e2)
        | _ => exact dpe_of _ _ r1 h1
    · exact h.elim

/-! ### isinstance -/
inductive Tk | non | bl | int | str | tup | lst | dct
def Tk.nm : Tk → String
  | .non => "NoneType" | .bl => "bool" | .int => "int" | .str => "str" | .tup => "tuple" | .lst => "list" | .dct => "dict"
def tyP (S : Sto) : Pv → Option Tk
  | .non => some .non | .bl _ => some .bl | .int _ => some .int | .str _ => some .str | .tup _ => some .tup | .lst _ => some .lst | .scr _ => some .lst | .dct _ _ => some .dct
  | .ref a => match S a with
    | some (.lst _) => some .lst
    | some (.dct _ _) => some .dct
    | _ => none
  | .ty _ => none
def isiT : Tk → Tk → Bool
  | .non, .non => true | .bl, .bl => true | .bl, .int => true | .int, .int => true | .str, .str => true | .tup, .tup => true | .lst, .lst => true | .dct, .dct => true
  | _, _ => false
theorem isiT_ok (t c : Tk) (hc : c = .non → False) : kitB t.nm c.nm = some (isiT t c) := by
  cases t <;> cases c <;> first | exact (hc rfl).elim | decide +kernel
def oIsi (c : Tk) : O1 := fun x S Q => match tyP S x with
  | some t => Q (.bl (isiT t c)) S
  | none => False
theorem tyP_rep {K : PySem.W.Frag} {H : Hp} {S : Sto} (rs : RepS K H S) {x : Pv} {v : V} {t : Tk} (h : RepV K H S x v) (e : tyP S x = some t) : TyX K H v (.type t.nm) := by
  cases x with
  | non => cases e; have e1 : v = _ := h; subst e1; exact .base .non
  | bl b => cases e; have e1 : v = _ := h; subst e1; exact .base (.bl b)
  | int b => cases e; have e1 : v = _ := h; subst e1; exact .base (.int b)
  | str b => cases e; have e1 : v = _ := h; subst e1; exact .base (.str b)
  | tup xs =>
    cases e
    obtain ⟨a, vs, rfl, hq, r⟩ := h
    rcases hq with (hq | ⟨o, hq⟩) | ⟨o, its, n, hk, hc, _⟩
    · exact .base (.tup hq)
    · exact .fTuple hq
    · exact .kTuple hk hc
  | lst xs => cases e; obtain ⟨a, vs, rfl, hq, _, r⟩ := h; exact .base (.lst hq)
  | scr xs =>
    cases e
    obtain ⟨a, vs, rfl, hq, r⟩ := h
    rcases hq with ⟨o, hq⟩ | ((hq | ⟨o, hq⟩) | ⟨o, its, n, hk, hc, _⟩)
    · exact .base (.frz hq)
    · cases hq
    · cases hq
    · exact .kList hk hc
  | dct ks xs =>
    cases e
    obtain ⟨a, kvs, rfl, hq, _⟩ := h
    rcases hq with hq | ⟨o, hq⟩
    · exact .base (.dK hq)
    · exact .fDict hq
  | ref a =>
    have e1 : v = _ := h
    subst e1
    simp only [tyP] at e
    split at e
    · rename_i xs q
      cases e
      obtain ⟨vs, e1, _⟩ := rs a _ q
      exact .base (.lst e1)
    · rename_i xs ys q
      cases e
      obtain ⟨vs, e1, _⟩ := rs a _ q
      exact .base (.dK e1)
    · cases e
  | ty n => cases e
theorem pv_isi (c : Tk) {T : Str} {pt : Pos} (hm : X.mg "isinstance" = none) (hmT : X.mg T = none) (ha : PV X S0 H0 a fa) (hb : bootBuiltins T = some (.type c.nm) := by decide +kernel) (hc : c = .non → False := by exact fun h => nomatch h) (hg : Gl X "isinstance" := by rfl) (hgT : Gl X T := by rfl)
    (hnT : T ≠ "__name__" := by decide) (hdT : (T == ("__debug__" : Str)) = false := by decide)
    (hs1 : starEach [a, .Name T pt] X.env = (false, eval a X.env) :: starEach [.Name T pt] X.env := by rfl) (hs2 : starEach [.Name T pt] X.env = (false, eval (.Name T pt) X.env) :: starEach [] X.env := by rfl)
    (hpl : (backTo pos (starEach [.Name T pt] X.env)).any (·.1) = false := by rfl) : PV X S0 H0 (.Call (.Name "isinstance" p) [a, .Name T pt] [] pos) (f1 (oIsi c) fa) := by
  have s : SimN X.K (rIsi X.K) (fun ps S Q => ∃ x, ps = [x, .ty c.nm] ∧ oIsi c x S Q) := by
    refine ⟨fun x S Q Q' h ⟨y, e, q⟩ => ⟨y, e, ?_⟩, fun x S Qp v H Q rx rs h k => ?_⟩
    · unfold oIsi at q ⊢
      split at q <;> first | exact h _ _ q | exact q.elim
    · obtain ⟨y, rfl, h⟩ := h
      obtain ⟨v1, v2, rfl, r1, r2⟩ := rx.two
      unfold oIsi at h
      split at h
      · rename_i t e
        exact ⟨v1, v2, _, .type c.nm, isiT t c, rfl, by rw [show v2 = _ from r2]; exact .ty _, tyP_rep rs r1 e, kit_ty (isiT_ok t c hc), k _ S _ H h rfl rs (Ext.refl S H)⟩
      · exact h.elim
  have h := pv_callB (pos := pos) (p := p) call_isi s hg hm (by decide +kernel) (pvs_cons ha (pvs_cons (pv_bltn (pos := pt) hgT hmT hb hnT hdT) pvs_nil hs2) hs1) (by decide) (by decide) hs1 hpl
  refine ⟨f1_mono (fun x S Q Q' h q => ?_) ha, PE.imp h.pe fun σ H Q ⟨ρ, S, re, rs, ex, q⟩ => ⟨ρ, S, re, rs, ex, ha.mono _ _ _ _ (fun x S1 q => ⟨x, rfl, q⟩) q⟩⟩
  unfold oIsi at q ⊢
  split at q <;> first | exact h _ _ q | exact q.elim
end
end PL

/-! The pure layer, part 4: targets, what is walked, loops, comprehensions, statements. -/
namespace PL
open PySem PySem.Spec PyProof.Rows L2

/-! ### targets made of names -/
inductive Tg where
  | nm (i : Nat)
  | tp (ts : List Tg)
mutual
def tgR (K : PySem.W.Frag) : Tg → TG
  | .nm i => gName i
  | .tp ts => fun v σ H Q => gTup K ts.length (tgRs K ts) v σ H Q ∨ gUnl K ts.length (tgRs K ts) v σ H Q
def tgRs (K : PySem.W.Frag) : List Tg → TGs
  | [] => gNil
  | t :: ts => gCons (tgR K t) (tgRs K ts)
end
mutual
def bindT (S : Sto) : Tg → Pv → Env' → Option Env'
  | .nm i, p, ρ => some (ρ.set i (some p))
  | .tp ts, p, ρ => (seqP S p).bind fun xs => if xs.length = ts.length then bindTs S ts xs ρ else none
def bindTs (S : Sto) : List Tg → List Pv → Env' → Option Env'
  | [], _, ρ => some ρ
  | t :: ts, [], _ => none
  | t :: ts, x :: xs, ρ => (bindT S t x ρ).bind fun ρ' => bindTs S ts xs ρ'
end
mutual
def slotsT : Tg → List Nat
  | .nm i => [i]
  | .tp ts => slotsTs ts
def slotsTs : List Tg → List Nat
  | [] => []
  | t :: ts => slotsT t ++ slotsTs ts
end
theorem wipe_set {σ : L2.St} {i : Nat} {x : Option V} : ∀ {vs : List Nat}, i ∈ vs → wipe (σ.set i x) vs = wipe σ vs
  | [], h => by simp at h
  | v :: vs, h => by
    show (wipe (σ.set i x) vs).set v none = (wipe σ vs).set v none
    by_cases hv : i ∈ vs
    · rw [wipe_set hv]
    · have e : i = v := by
        rcases List.mem_cons.mp h with e | e
        · exact e
        · exact absurd e hv
      subst e
      have q : ∀ (us : List Nat), i ∉ us → wipe (σ.set i x) us = (wipe σ us).set i x := by
        intro us
        induction us with
        | nil => intro _; rfl
        | cons u us ih =>
          intro hu
          have h1 : i ≠ u := fun e => hu (by rw [e]; exact List.mem_cons_self)
          have h2 : i ∉ us := fun e => hu (List.mem_cons_of_mem _ e)
          show (wipe (σ.set i x) us).set u none = ((wipe σ us).set u none).set i x
          rw [ih h2, List.set_comm _ _ h1]
      rw [q vs hv, List.set_set]
section
variable {K : PySem.W.Frag} {H : Hp} {S : Sto}
mutual
theorem tg_run (rs : RepS K H S) : ∀ (t : Tg) (p : Pv) (v : V) (σ : L2.St) (ρ ρ' : Env') (Q : L2.St → Hp → Prop), RepV K H S p v → RepE K H S σ ρ → bindT S t p ρ = some ρ' →
    (∀ σ', RepE K H S σ' ρ' → (∀ vs : List Nat, (∀ i ∈ slotsT t, i ∈ vs) → wipe σ' vs = wipe σ vs) → Q σ' H) → tgR K t v σ H Q
  | .nm i, p, v, σ, ρ, ρ', Q, rv, re, e, k => by
    have e' : ρ.set i (some p) = ρ' := by simpa [bindT] using e
    subst e'
    exact k _ (re.set i rv) fun vs h => wipe_set (h i (by simp [slotsT]))
  | .tp ts, p, v, σ, ρ, ρ', Q, rv, re, e, k => by
    simp only [bindT, Option.bind_eq_some_iff] at e
    obtain ⟨xs, e0, e⟩ := e
    split at e
    · rename_i hl
      obtain ⟨a, vs, e1, hq, r⟩ := seq_rep rs rv e0
      have hr := tgs_run rs ts xs vs σ ρ ρ' Q hl r re e fun σ' r' w => k σ' r' fun us h => w us (by simpa [slotsT] using h)
      rcases hq with hq | hq
      · exact .inr ⟨a, vs, e1, hq, by rw [r.len]; exact hl, hr⟩
      · exact .inl ⟨a, vs, e1, hq, by rw [r.len]; exact hl, hr⟩
    · cases e
theorem tgs_run (rs : RepS K H S) : ∀ (ts : List Tg) (xs : List Pv) (vs : List V) (σ : L2.St) (ρ ρ' : Env') (Q : L2.St → Hp → Prop), xs.length = ts.length → RepVs K H S xs vs → RepE K H S σ ρ → bindTs S ts xs ρ = some ρ' →
    (∀ σ', RepE K H S σ' ρ' → (∀ us : List Nat, (∀ i ∈ slotsTs ts, i ∈ us) → wipe σ' us = wipe σ us) → Q σ' H) → tgRs K ts vs σ H Q
  | [], [], vs, σ, ρ, ρ', Q, hl, r, re, e, k => by
    have e' : ρ = ρ' := by simpa [bindTs] using e
    subst e'
    exact ⟨r, k σ re fun _ _ => rfl⟩
  | [], x :: xs, vs, σ, ρ, ρ', Q, hl, r, re, e, k => by simp at hl
  | t :: ts, [], vs, σ, ρ, ρ', Q, hl, r, re, e, k => by simp at hl
  | t :: ts, x :: xs, vs, σ, ρ, ρ', Q, hl, ⟨v, r, e1, h1, h2⟩, re, e, k => by
    simp only [bindTs, Option.bind_eq_some_iff] at e
    obtain ⟨ρ1, e2, e3⟩ := e
    refine ⟨v, r, e1, tg_run rs t x v σ ρ ρ1 _ h1 re e2 fun σ1 r1 w1 => ?_⟩
    exact tgs_run rs ts xs r σ1 ρ1 ρ' Q (by simpa using hl) h2 r1 e3 fun σ2 r2 w2 => k σ2 r2 fun us h => by
      rw [w2 us fun i hi => h i (by simp [slotsTs, hi]), w1 us fun i hi => h i (by simp [slotsTs, hi])]
end
end
section
variable {X : Cx} {S0 : Sto} {H0 : Hp} {a b : Expr} {fa fb : PF} {pos : Pos}
theorem PG.or {tg : Expr} {g g' : TG} (h : PG X tg g) (h' : PG X tg g') : PG X tg (fun v σ H Q => g v σ H Q ∨ g' v σ H Q) := ⟨fun pins s σ H v u Q I r q => q.elim (fun q => h.run pins s σ H v u Q I r q) fun q => h'.run pins s σ H v u Q I r q⟩
theorem pgt_name (i : Nat) {x : Str} (hN : X.N.Nodup) (hi : X.N[i]? = some x := by rfl) (hx : Loc X.env.scope x := by first | exact Or.inl rfl | exact Or.inr rfl) (hf : X.fn x = true ∨ X.env.scope.names.lookup x = some .local := by first | exact .inl rfl | exact .inr rfl | assumption) : PG X (.Name x pos) (tgR X.K (.nm i)) := by
  have e : tgR X.K (.nm i) = gName i := by simp [tgR]
  rw [e]
  exact pg_name hN hi hx hf
theorem pgt_nil : PGs X [] (tgRs X.K []) := by
  have e : tgRs X.K [] = gNil := by simp [tgRs]
  rw [e]
  exact pgs_nil
theorem pgt_cons {e : Expr} {es : List Expr} {t : Tg} {ts : List Tg} (h1 : PG X e (tgR X.K t)) (h2 : PGs X es (tgRs X.K ts)) (hs : (assignEach (e :: es) X.env).map (·.2) = assign e X.env :: (assignEach es X.env).map (·.2) := by rfl) : PGs X (e :: es) (tgRs X.K (t :: ts)) := by
  have q : tgRs X.K (t :: ts) = gCons (tgR X.K t) (tgRs X.K ts) := by simp [tgRs]
  rw [q]
  exact pgs_cons h1 h2 hs
theorem pgt_tup {es : List Expr} {k : Nat} {ts : List Tg} (hc : X.calm = true) (h : PGs X es (tgRs X.K ts)) (hn : (assignEach es X.env).length = ts.length := by rfl) (hst : (assignEach es X.env).findIdx? (·.1) = none := by rfl) : PG X (.Tuple es k pos) (tgR X.K (.tp ts)) := by
  have q : tgR X.K (.tp ts) = fun v σ H Q => gTup X.K ts.length (tgRs X.K ts) v σ H Q ∨ gUnl X.K ts.length (tgRs X.K ts) v σ H Q := by funext v σ H Q; simp [tgR]
  rw [q]
  exact PG.or (pg_tup hc h hn hst) (pg_unl hc h hn hst)

/-! ### what is walked -/
structure Wk (K : PySem.W.Frag) (S1 : Sto) (H1 : Hp) (J : It) (its : List Pv) (gd : Sto → Prop) : Prop where
  go : ∀ S H (i : Nat) x, Ext S1 H1 S H → RepS K H S → gd S → its[i]? = some x → J.go i H ∧ ∀ v H', J.yld i H v H' → RepV K H' S x v ∧ RepS K H' S ∧ Ext S H S H'
  stop : ∀ S H, Ext S1 H1 S H → RepS K H S → gd S → J.stop its.length H
abbrev PFI := Env' → Sto → (List Pv → (Sto → Prop) → Sto → Prop) → Prop
def liftI (K : PySem.W.Frag) (S0 : Sto) (H0 : Hp) (f : PFI) : TI := fun σ H R => ∃ ρ S, RepE K H S σ ρ ∧ RepS K H S ∧ Ext S0 H0 S H ∧
  f ρ S fun its gd S' => ∀ J H', Wk K S' H' J its gd → RepS K H' S' → Ext S H S' H' → R J H'
structure PIt (X : Cx) (S0 : Sto) (H0 : Hp) (tg iter : Expr) (f : PFI) : Prop where
  mono : ∀ ρ S Q Q', (∀ p g S', Q p g S' → Q' p g S') → f ρ S Q → f ρ S Q'
  pi : PI X tg iter (liftI X.K S0 H0 f)
theorem PI.imp {tg iter : Expr} {t t' : TI} (h : PI X tg iter t) (i : ∀ σ H R, t' σ H R → t σ H R) : PI X tg iter t' := ⟨fun pins s σ H R I q => h.run pins s σ H R I (i σ H R q)⟩
abbrev tru : Sto → Prop := fun _ => True
def chars (z : Str) : List Pv := z.cps.toList.map fun c => .str ⟨#[c]⟩
def itP (S : Sto) : Pv → Option (List Pv × (Sto → Prop))
  | .tup xs => some (xs, tru)
  | .lst xs => some (xs, tru)
  | .scr xs => some (xs, tru)
  | .str z => some (chars z, tru)
  | .ref a => match S a with
    | some (.lst xs) => some (xs, fun S' => S' a = some (.lst xs))
    | _ => none
  | _ => none
def fIt (f : PF) : PFI := fun ρ S Q => f ρ S fun p S1 => match itP S1 p with
  | some (its, gd) => Q its gd S1
  | none => False
theorem wk_list {K : PySem.W.Frag} {S1 : Sto} {H1 : Hp} {a : Addr} {vs : List V} {its : List Pv} {gd : Sto → Prop} (h : ∀ S H, Ext S1 H1 S H → RepS K H S → gd S → ∃ vs, SqL K H a vs ∧ RepVs K H S its vs ∧ ∀ us, SqL K H a us → us = vs) : Wk K S1 H1 (Itl K a) its gd := by
  refine ⟨fun S H i x e rs g hx => ?_, fun S H e rs g => ?_⟩
  · obtain ⟨vs, hq, r, u⟩ := h S H e rs g
    obtain ⟨v, hv, rv⟩ := r.get hx
    refine ⟨⟨vs, v, hq, hv⟩, fun w H' y => ?_⟩
    obtain ⟨rfl, y⟩ := y
    have e1 := y vs hq
    rw [hv] at e1; cases e1
    exact ⟨rv, rs, Ext.refl S _⟩
  · obtain ⟨vs, hq, r, u⟩ := h S H e rs g
    exact ⟨vs, hq, by rw [r.len]; exact Nat.le_refl _⟩
theorem wk_tup {K : PySem.W.Frag} {S1 : Sto} {H1 : Hp} {a : Addr} {vs : List V} {its : List Pv} (rs1 : RepS K H1 S1) (hq : SqT K H1 a vs) (r : RepVs K H1 S1 its vs) : Wk K S1 H1 (Itt K a) its tru := by
  refine ⟨fun S H i x e rs g hx => ?_, fun S H e rs g => ?_⟩
  · obtain ⟨v, hv, rv⟩ := (RepVs.ext rs1 e _ _ r).get hx
    have hq' := SqT.ext rs1 e hq
    refine ⟨⟨vs, v, hq', hv⟩, fun w H' y => ?_⟩
    obtain ⟨rfl, y⟩ := y
    have e1 := y vs hq'
    rw [hv] at e1; cases e1
    exact ⟨rv, rs, Ext.refl S _⟩
  · exact ⟨vs, SqT.ext rs1 e hq, by rw [r.len]; exact Nat.le_refl _⟩
theorem wk_list' {K : PySem.W.Frag} {S1 : Sto} {H1 : Hp} {a : Addr} {its : List Pv} {gd : Sto → Prop} (h : ∀ S H, Ext S1 H1 S H → RepS K H S → gd S → ∃ vs, SqL K H a vs ∧ RepVs K H S its vs) : Wk K S1 H1 (Itl K a) its gd := by
  refine ⟨fun S H i x e rs g hx => ?_, fun S H e rs g => ?_⟩
  · obtain ⟨vs, hq, r⟩ := h S H e rs g
    obtain ⟨v, hv, rv⟩ := r.get hx
    refine ⟨⟨vs, v, hq, hv⟩, fun w H' y => ?_⟩
    obtain ⟨rfl, y⟩ := y
    have e1 := y vs hq
    rw [hv] at e1; cases e1
    exact ⟨rv, rs, Ext.refl S _⟩
  · obtain ⟨vs, hq, r⟩ := h S H e rs g
    exact ⟨vs, hq, by rw [r.len]; exact Nat.le_refl _⟩
/-- a list of any kind that is read, with what must stay -/
def gdL (S : Sto) (x : Pv) (xs : List Pv) : Sto → Prop := match x with
  | .ref a => fun S' => S' a = some (.lst xs)
  | _ => tru
theorem rdL_stay {K : PySem.W.Frag} {S1 : Sto} {H1 : Hp} {x : Pv} {v : V} {xs : List Pv} (rs1 : RepS K H1 S1) (rx : RepV K H1 S1 x v) (e0 : rdL S1 x = some xs) : ∃ a, v = .ref a ∧ ∀ S H, Ext S1 H1 S H → RepS K H S → gdL S1 x xs S → ∃ vs, SqL K H a vs ∧ RepVs K H S xs vs := by
  cases x with
  | lst ys =>
    have e' : ys = xs := by simpa [rdL] using e0
    subst e'
    obtain ⟨a, vs, e1, h, hs, r⟩ := rx
    exact ⟨a, e1, fun S H e rs g => ⟨vs, .inl (.inl (e.keep _ _ h hs)), RepVs.ext rs1 e _ _ r⟩⟩
  | scr ys =>
    have e' : ys = xs := by simpa [rdL] using e0
    subst e'
    obtain ⟨a, vs, e1, h, r⟩ := rx
    refine ⟨a, e1, fun S H e rs g => ⟨vs, ?_, RepVs.ext rs1 e _ _ r⟩⟩
    rcases h with ⟨o, h⟩ | h
    · exact .inl (.inr ⟨o, e.keep _ _ h (rs1.frz h)⟩)
    · exact sqL_of h
  | ref a =>
    refine ⟨a, rx, fun S H e rs g => ?_⟩
    obtain ⟨vs, h, r⟩ := rs a _ (show S a = some (.lst xs) from g)
    exact ⟨vs, .inl (.inl h), r⟩
  | _ => simp [rdL] at e0
/-- the readings of a value that is walked -/
def rIt (K : PySem.W.Frag) (x : V) (H : Hp) (R : It → Hp → Prop) : Prop :=
  (∃ a, x = .ref a ∧ (∃ xs, SqL K H a xs) ∧ R (Itl K a) H) ∨ (∃ a, x = .ref a ∧ (∃ xs, SqT K H a xs) ∧ R (Itt K a) H) ∨ ∃ z, x = .str z ∧ R (Its z) H
theorem pi_val {tg l : Expr} {tl : TE} (hl : PE X l tl) : PI X tg l (fun σ H R => tl σ H fun x H1 => rIt X.K x H1 R) := by
  refine ⟨fun pins s σ H R I hw => thn (hl.run pins s σ H _ I hw) fun u s1 hq => ?_⟩
  obtain ⟨x, H1, I1, ru, q⟩ := hq
  rcases q with ⟨l', e, ⟨xs, hx⟩, q⟩ | ⟨l', e, ⟨xs, hx⟩, q⟩ | ⟨z, e, q⟩
  · subst e; cases ru
    obtain ⟨vals, _, pl, _⟩ := I1.list hx
    exact wpAny_pyIter_list pl.isList (pi_one (tk := s1.toks) I1 _ (turn_list l' _) ⟨_, Heap.get?_push_size _ rfl, rfl, rfl⟩ q)
  · subst e; cases ru
    obtain ⟨vals, _, pt, _⟩ := I1.tuple hx
    exact wpAny_pyIter_tuple (items := vals.toArray) pt (pi_one (tk := s1.toks) I1 _ (turn_tuple l' _) ⟨_, Heap.get?_push_size _ rfl, rfl, rfl⟩ q)
  · subst e
    obtain ⟨t, rfl⟩ := ru
    by_cases ha : z.cps.all (· < 128) = true
    · exact wpAny_pyIter_ascii ha (pi_one (tk := s1.toks) I1 _ (turn_str _ z t _ (.inl rfl)) ⟨_, Heap.get?_push_size _ rfl, rfl, rfl⟩ q)
    · exact wpAny_pyIter_wide (by simpa using ha) (pi_one (tk := s1.toks) I1 _ (turn_str _ z t _ (.inr rfl)) ⟨_, Heap.get?_push_size _ rfl, rfl, rfl⟩ q)
theorem wk_str {K : PySem.W.Frag} {S1 : Sto} {H1 : Hp} {z : Str} : Wk K S1 H1 (Its z) (chars z) tru := by
  refine ⟨fun S H i x e rs g hx => ?_, fun S H e rs g => ?_⟩
  · unfold chars at hx
    rw [List.getElem?_map, Option.map_eq_some_iff] at hx
    obtain ⟨c, hc, rfl⟩ := hx
    have hc' : z.cps[i]? = some c := by simpa using hc
    refine ⟨(Array.getElem?_eq_some_iff.mp hc').1, fun w H' y => ?_⟩
    obtain ⟨rfl, c', e1, e2⟩ := y
    rw [hc'] at e1; cases e1
    exact ⟨e2, rs, Ext.refl S _⟩
  · show z.cps.size ≤ _
    unfold chars
    simp
theorem pit_val {tg : Expr} (h : PV X S0 H0 a fa) : PIt X S0 H0 tg a (fIt fa) := by
  refine ⟨fun ρ S Q Q' i q => h.mono _ _ _ _ (fun p S1 q => ?_) q, PI.imp (pi_val h.pe) fun σ H R ⟨ρ, S, re, rs, ex, q⟩ => ?_⟩
  · split at q
    · exact i _ _ _ q
    · exact q
  · refine ⟨ρ, S, re, rs, ex, h.mono _ _ _ _ (fun p S1 q v H1 rv rs1 ex1 => ?_) q⟩
    cases p with
    | tup xs =>
      have rv' := rv
      obtain ⟨t, vs, e1, hq, r⟩ := rv
      exact .inr (.inl ⟨t, e1, ⟨vs, hq⟩, q _ H1 (wk_tup rs1 hq r) rs1 ex1⟩)
    | lst xs =>
      obtain ⟨t, e1, k⟩ := rdL_stay (xs := xs) rs1 rv rfl
      obtain ⟨vs, hq, _⟩ := k S1 H1 (Ext.refl _ _) rs1 trivial
      exact .inl ⟨t, e1, ⟨vs, hq⟩, q _ H1 (wk_list' k) rs1 ex1⟩
    | scr xs =>
      obtain ⟨t, e1, k⟩ := rdL_stay (xs := xs) rs1 rv rfl
      obtain ⟨vs, hq, _⟩ := k S1 H1 (Ext.refl _ _) rs1 trivial
      exact .inl ⟨t, e1, ⟨vs, hq⟩, q _ H1 (wk_list' k) rs1 ex1⟩
    | str z => exact .inr (.inr ⟨z, rv, q _ H1 wk_str rs1 ex1⟩)
    | ref b =>
      simp only [itP] at q
      cases hb : S1 b with
      | none => rw [hb] at q; exact q.elim
      | some m =>
        cases m with
        | lst xs =>
          rw [hb] at q
          obtain ⟨t, e1, k⟩ := rdL_stay (xs := xs) rs1 rv (by simp [rdL, hb])
          obtain ⟨vs, hq, _⟩ := k S1 H1 (Ext.refl _ _) rs1 hb
          exact .inl ⟨t, e1, ⟨vs, hq⟩, q _ H1 (wk_list' k) rs1 ex1⟩
        | _ => rw [hb] at q; exact q.elim
    | _ => exact q.elim
def rngP (lo hi : Int) : List Pv := (List.range (hi - lo).toNat).map fun (k : Nat) => .int (lo + k)
theorem wk_rng {K : PySem.W.Frag} {S1 : Sto} {H1 : Hp} {lo hi : Int} : Wk K S1 H1 (Itr lo (hi - lo).toNat) (rngP lo hi) tru := by
  refine ⟨fun S H i x e rs g hx => ?_, fun S H e rs g => ?_⟩
  · unfold rngP at hx
    rw [List.getElem?_map, Option.map_eq_some_iff] at hx
    obtain ⟨c, hc, rfl⟩ := hx
    have hi' : i < (hi - lo).toNat := by
      have := (List.getElem?_eq_some_iff.mp hc).1
      simpa using this
    have e2 : i = c := by simpa [List.getElem?_range hi'] using hc
    subst e2
    refine ⟨hi', fun w H' y => ?_⟩
    obtain ⟨rfl, rfl⟩ := y
    exact ⟨rfl, rs, Ext.refl S _⟩
  · show (hi - lo).toNat ≤ _
    unfold rngP
    simp
def bnd (i : Int) : Prop := -(2 ^ 62) ≤ i ∧ i < 2 ^ 62
def fRng1 (fs : PFs) : PFI := fun ρ S Q => fs ρ S fun ps S1 => match ps with
  | [.int j] => bnd j ∧ Q (rngP 0 j) tru S1
  | _ => False
def fRng2 (fs : PFs) : PFI := fun ρ S Q => fs ρ S fun ps S1 => match ps with
  | [.int i, .int j] => (bnd i ∧ bnd j) ∧ Q (rngP i j) tru S1
  | _ => False
theorem pit_range1 {tg : Expr} {fs : PFs} {p : Pos} (hm : X.mg "range" = none) (ha : PVs X S0 H0 [a] fs) (hg : Gl X "range" := by rfl) (hs : starEach [a] X.env = [(false, eval a X.env)] := by rfl) : PIt X S0 H0 tg (.Call (.Name "range" p) [a] [] pos) (fRng1 fs) := by
  refine ⟨fun ρ S Q Q' i q => ha.mono _ _ _ _ (fun ps S1 q => ?_) q, PI.imp (pi_range1 hg hm ha.pa hs) fun σ H R ⟨ρ, S, re, rs, ex, q⟩ => ?_⟩
  · split at q
    · exact ⟨q.1, i _ _ _ q.2⟩
    · exact q
  · refine ⟨ρ, S, re, rs, ex, ha.mono _ _ _ _ (fun ps S1 q vs H1 rv rs1 ex1 => ?_) q⟩
    split at q
    · rename_i j
      obtain ⟨v, rfl, r⟩ := rv.one
      refine ⟨j, by rw [show v = _ from r], q.1.1, q.1.2, q.2 _ H1 ?_ rs1 ex1⟩
      have w := wk_rng (K := X.K) (S1 := S1) (H1 := H1) (lo := 0) (hi := j)
      rw [Int.sub_zero] at w
      exact w
    · exact q.elim
theorem pit_range2 {tg : Expr} {fs : PFs} {p : Pos} (hm : X.mg "range" = none) (ha : PVs X S0 H0 [a, b] fs) (hg : Gl X "range" := by rfl) (hs : starEach [a, b] X.env = [(false, eval a X.env), (false, eval b X.env)] := by rfl) (hs2 : starEach [b] X.env = [(false, eval b X.env)] := by rfl) : PIt X S0 H0 tg (.Call (.Name "range" p) [a, b] [] pos) (fRng2 fs) := by
  refine ⟨fun ρ S Q Q' i q => ha.mono _ _ _ _ (fun ps S1 q => ?_) q, PI.imp (pi_range2 hg hm ha.pa hs hs2) fun σ H R ⟨ρ, S, re, rs, ex, q⟩ => ?_⟩
  · split at q
    · exact ⟨q.1, i _ _ _ q.2⟩
    · exact q
  · refine ⟨ρ, S, re, rs, ex, ha.mono _ _ _ _ (fun ps S1 q vs H1 rv rs1 ex1 => ?_) q⟩
    split at q
    · rename_i i j
      obtain ⟨v, u, rfl, r, r'⟩ := rv.two
      exact ⟨i, j, by rw [show v = _ from r, show u = _ from r'], ⟨q.1.1.1, q.1.1.2, q.1.2.1, q.1.2.2⟩, q.2 _ H1 wk_rng rs1 ex1⟩
    · exact q.elim
/-- zip of two lists, of two tuples -/
def zipP (xs ys : List Pv) : List Pv := List.zipWith (fun x y => .tup [x, y]) xs ys
theorem zipP_get {xs ys : List Pv} {i : Nat} {z : Pv} (h : (zipP xs ys)[i]? = some z) : ∃ x y, xs[i]? = some x ∧ ys[i]? = some y ∧ z = .tup [x, y] := by
  unfold zipP at h
  rw [List.getElem?_zipWith] at h
  cases hx : xs[i]? with
  | none => rw [hx] at h; simp at h
  | some x =>
    cases hy : ys[i]? with
    | none => rw [hx, hy] at h; simp at h
    | some y => rw [hx, hy] at h; simp at h; exact ⟨x, y, rfl, rfl, h.symm⟩
def fZip (fs : PFs) : PFI := fun ρ S Q => fs ρ S fun ps S1 => match ps with
  | [.tup xs, .tup ys] => Q (zipP xs ys) tru S1
  | [x, y] => (match rdL S1 x, rdL S1 y with
    | some xs, some ys => Q (zipP xs ys) (fun S' => gdL S1 x xs S' ∧ gdL S1 y ys S') S1
    | _, _ => False)
  | _ => False
theorem pair_new {K : PySem.W.Frag} {S : Sto} {H : Hp} {T : Addr} {x y : Pv} {v u : V} (rs : RepS K H S) (nT : H T = none) (rx : RepV K H S x v) (ry : RepV K H S y u) : RepV K (upd H T (.tup [v, u])) S (.tup [x, y]) (.ref T) ∧ RepS K (upd H T (.tup [v, u])) S ∧ Ext S H S (upd H T (.tup [v, u])) :=
  newT_k rs nT ⟨v, [u], rfl, rx, u, [], rfl, ry, rfl⟩
theorem wk_zipT {K : PySem.W.Frag} {S1 : Sto} {H1 : Hp} {a b : Addr} {vs us : List V} {xs ys : List Pv} (rs1 : RepS K H1 S1) (h1 : SqT K H1 a vs) (h2 : SqT K H1 b us) (r1 : RepVs K H1 S1 xs vs) (r2 : RepVs K H1 S1 ys us) : Wk K S1 H1 (RZ.ItzT K a b) (zipP xs ys) tru := by
  refine ⟨fun S H i z e rs g hz => ?_, fun S H e rs g => ?_⟩
  · obtain ⟨x, y, hx, hy, rfl⟩ := zipP_get hz
    obtain ⟨v, hv, rv⟩ := (RepVs.ext rs1 e _ _ r1).get hx
    obtain ⟨u, hu, ru⟩ := (RepVs.ext rs1 e _ _ r2).get hy
    have q1 := SqT.ext rs1 e h1
    have q2 := SqT.ext rs1 e h2
    refine ⟨⟨vs, us, v, u, q1, q2, hv, hu⟩, fun w H' yl => ?_⟩
    obtain ⟨T, x', y', rfl, nT, rfl, f1, f2⟩ := yl
    have e1 := f1 vs q1
    have e2 := f2 us q2
    rw [hv] at e1; cases e1
    rw [hu] at e2; cases e2
    exact pair_new rs nT rv ru
  · refine ⟨vs, us, SqT.ext rs1 e h1, SqT.ext rs1 e h2, ?_⟩
    unfold zipP
    rw [List.length_zipWith, r1.len, r2.len]
    omega
theorem wk_zipL {K : PySem.W.Frag} {S1 : Sto} {H1 : Hp} {a b : Addr} {xs ys : List Pv} {g1 g2 : Sto → Prop} (h1 : ∀ S H, Ext S1 H1 S H → RepS K H S → g1 S → ∃ vs, SqL K H a vs ∧ RepVs K H S xs vs) (h2 : ∀ S H, Ext S1 H1 S H → RepS K H S → g2 S → ∃ vs, SqL K H b vs ∧ RepVs K H S ys vs) :
    Wk K S1 H1 (Itz K a b) (zipP xs ys) (fun S => g1 S ∧ g2 S) := by
  refine ⟨fun S H i z e rs g hz => ?_, fun S H e rs g => ?_⟩
  · obtain ⟨x, y, hx, hy, rfl⟩ := zipP_get hz
    obtain ⟨vs, q1, r1⟩ := h1 S H e rs g.1
    obtain ⟨us, q2, r2⟩ := h2 S H e rs g.2
    obtain ⟨v, hv, rv⟩ := r1.get hx
    obtain ⟨u, hu, ru⟩ := r2.get hy
    refine ⟨⟨vs, us, v, u, q1, q2, hv, hu⟩, fun w H' yl => ?_⟩
    obtain ⟨T, x', y', rfl, nT, rfl, f1, f2⟩ := yl
    have e1 := f1 vs q1
    have e2 := f2 us q2
    rw [hv] at e1; cases e1
    rw [hu] at e2; cases e2
    exact pair_new rs nT rv ru
  · obtain ⟨vs, q1, r1⟩ := h1 S H e rs g.1
    obtain ⟨us, q2, r2⟩ := h2 S H e rs g.2
    refine ⟨vs, us, q1, q2, ?_⟩
    unfold zipP
    rw [List.length_zipWith, r1.len, r2.len]
    omega
theorem pit_zip {elts : List Expr} {kk : Nat} {tpos : Pos} {fs : PFs} {p : Pos} (hm : X.mg "zip" = none) (ha : PVs X S0 H0 [a, b] fs) (hg : Gl X "zip" := by rfl) (hs : starEach [a, b] X.env = (false, eval a X.env) :: starEach [b] X.env := by rfl) (hpl : (backTo pos (starEach [b] X.env)).any (·.1) = false := by rfl) :
    PIt X S0 H0 (.Tuple elts kk tpos) (.Call (.Name "zip" p) [a, b] [] pos) (fZip fs) := by
  refine ⟨fun ρ S Q Q' i q => ha.mono _ _ _ _ (fun ps S1 q => ?_) q, PI.imp (RZ.pi_zipA hg hm ha.pa hs hpl) fun σ H R ⟨ρ, S, re, rs, ex, q⟩ => ?_⟩
  · split at q
    · exact i _ _ _ q
    · split at q
      · exact i _ _ _ q
      · exact q
    · exact q
  · refine ⟨ρ, S, re, rs, ex, ha.mono _ _ _ _ (fun ps S1 q vs H1 rv rs1 ex1 => ?_) q⟩
    split at q
    · obtain ⟨v, u, rfl, r, r'⟩ := rv.two
      obtain ⟨l1, vs1, e1, h1, r1⟩ := r
      obtain ⟨l2, vs2, e2, h2, r2⟩ := r'
      exact ⟨l1, l2, vs1, vs2, by rw [e1, e2], .inr ⟨h1, h2, q _ H1 (wk_zipT rs1 h1 h2 r1 r2) rs1 ex1⟩⟩
    · obtain ⟨v, u, rfl, r, r'⟩ := rv.two
      split at q
      · rename_i xs ys e1 e2
        obtain ⟨l1, w1, k1⟩ := rdL_stay rs1 r e1
        obtain ⟨l2, w2, k2⟩ := rdL_stay rs1 r' e2
        obtain ⟨l1', vs1, w1', h1, _⟩ := rdL_rep rs1 r e1
        obtain ⟨l2', vs2, w2', h2, _⟩ := rdL_rep rs1 r' e2
        rw [w1] at w1'; cases w1'
        rw [w2] at w2'; cases w2'
        exact ⟨l1, l2, vs1, vs2, by rw [w1, w2], .inl ⟨h1, h2, q _ H1 (wk_zipL k1 k2) rs1 ex1⟩⟩
      · exact q.elim
    · exact q.elim
/-- enumerate of a list -/
def enumP (xs : List Pv) : List Pv := xs.mapIdx fun i x => .tup [.int (i : Nat), x]
def fEnum (fs : PFs) : PFI := fun ρ S Q => fs ρ S fun ps S1 => match ps with
  | [x] => (match rdL S1 x with
    | some xs => Q (enumP xs) (gdL S1 x xs) S1
    | none => False)
  | _ => False
theorem pit_enum {elts : List Expr} {kk : Nat} {tpos : Pos} {fs : PFs} {p : Pos} (hm : X.mg "enumerate" = none) (ha : PVs X S0 H0 [a] fs) (hg : Gl X "enumerate" := by rfl) (hs : starEach [a] X.env = [(false, eval a X.env)] := by rfl) :
    PIt X S0 H0 (.Tuple elts kk tpos) (.Call (.Name "enumerate" p) [a] [] pos) (fEnum fs) := by
  refine ⟨fun ρ S Q Q' i q => ha.mono _ _ _ _ (fun ps S1 q => ?_) q, PI.imp (pi_enum hg hm ha.pa hs) fun σ H R ⟨ρ, S, re, rs, ex, q⟩ => ?_⟩
  · split at q
    · split at q
      · exact i _ _ _ q
      · exact q
    · exact q
  · refine ⟨ρ, S, re, rs, ex, ha.mono _ _ _ _ (fun ps S1 q vs H1 rv rs1 ex1 => ?_) q⟩
    split at q
    · obtain ⟨v, rfl, r⟩ := rv.one
      split at q
      · rename_i xs e1
        obtain ⟨l1, w1, k1⟩ := rdL_stay rs1 r e1
        obtain ⟨l1', vs1, w1', h1, _⟩ := rdL_rep rs1 r e1
        rw [w1] at w1'; cases w1'
        refine ⟨l1, vs1, by rw [w1], h1, q _ H1 ⟨fun S H i z e rs g hz => ?_, fun S H e rs g => ?_⟩ rs1 ex1⟩
        · unfold enumP at hz
          rw [List.getElem?_mapIdx, Option.map_eq_some_iff] at hz
          obtain ⟨x, hx, rfl⟩ := hz
          obtain ⟨us, hq, rr⟩ := k1 S H e rs g
          obtain ⟨u, hu, ru⟩ := rr.get hx
          refine ⟨⟨us, u, hq, hu⟩, fun w H' yl => ?_⟩
          obtain ⟨T, x', rfl, nT, rfl, f1⟩ := yl
          have e2 := f1 us hq
          rw [hu] at e2; cases e2
          exact pair_new rs nT rfl ru
        · obtain ⟨us, hq, rr⟩ := k1 S H e rs g
          refine ⟨us, hq, ?_⟩
          unfold enumP
          rw [List.length_mapIdx, rr.len]
          exact Nat.le_refl _
      · exact q.elim
    · exact q.elim

/-! ### statements -/
variable {st : Stmt} {sts : List Stmt} {g g' : PFS}
def gNext : PFS := fun D ρ S => D.nx ρ S
def gSeq (g g' : PFS) : PFS := fun D ρ S => g { D with nx := g' D } ρ S
theorem pzs_nil : PZs X S0 H0 [] gNext := ⟨fun D D' ρ S h q => h.1 _ _ q, PSs.imp pss_nil fun D σ H ⟨ρ, S, re, rs, _, q⟩ => q σ H re rs (Ext.refl S H)⟩
theorem pzs_one (h : PZ X S0 H0 st g) : PZs X S0 H0 [st] g := ⟨h.mono, pss_one h.ps⟩
theorem pzs_cons (h : PZ X S0 H0 st g) (h' : PZs X S0 H0 sts g') : PZs X S0 H0 (st :: sts) (gSeq g g') := by
  refine ⟨fun D D' ρ S l q => h.mono { D with nx := g' D } { D' with nx := g' D' } _ _ ⟨fun r s q => h'.mono _ _ _ _ l q, l.2.1, l.2.2.1, l.2.2.2⟩ q, PSs.imp (pss_cons h.ps h'.pss) fun D σ H ⟨ρ, S, re, rs, ex, q⟩ => ?_⟩
  refine ⟨ρ, S, re, rs, ex, h.mono { lE X.K S H D with nx := g' (lE X.K S H D) } _ _ _ ⟨fun ρ1 S1 q σ1 H1 re1 rs1 ex1 => ?_, fun _ _ q => q, fun _ _ q => q, fun _ _ q => q⟩ q⟩
  exact ⟨ρ1, S1, re1, rs1, ex.trans ex1, h'.mono _ _ _ _ (lE_le ex1) q⟩
theorem pz_pass : PZ X S0 H0 (.Pass pos) gNext := ⟨fun D D' ρ S h q => h.1 _ _ q, PS.imp ps_pass fun D σ H ⟨ρ, S, re, rs, _, q⟩ => q σ H re rs (Ext.refl S H)⟩
def gBreak : PFS := fun D ρ S => D.bk ρ S
def gCont : PFS := fun D ρ S => D.ct ρ S
theorem pz_break : PZ X S0 H0 (.Break pos) gBreak := ⟨fun D D' ρ S h q => h.2.2.1 _ _ q, PS.imp ps_break fun D σ H ⟨ρ, S, re, rs, _, q⟩ => q σ H re rs (Ext.refl S H)⟩
theorem pz_cont : PZ X S0 H0 (.Continue pos) gCont := ⟨fun D D' ρ S h q => h.2.2.2 _ _ q, PS.imp ps_continue fun D σ H ⟨ρ, S, re, rs, _, q⟩ => q σ H re rs (Ext.refl S H)⟩
def gRet (f : PF) : PFS := fun D ρ S => f ρ S D.rt
theorem pz_ret (h : PV X S0 H0 a fa) : PZ X S0 H0 (.Return (some a) pos) (gRet fa) :=
  ⟨fun D D' ρ S l q => h.mono _ _ _ _ l.2.1 q, PS.imp (ps_ret h.pe) fun D σ H q => q⟩
def gRetN : PFS := fun D _ S => D.rt .non S
theorem pz_retN : PZ X S0 H0 (.Return none pos) gRetN := ⟨fun D D' ρ S l q => l.2.1 _ _ q, PS.imp ps_retN fun D σ H ⟨ρ, S, re, rs, _, q⟩ => q .non H rfl rs (Ext.refl S H)⟩
def gDrop (f : PF) : PFS := fun D ρ S => f ρ S fun _ S1 => D.nx ρ S1
theorem pz_expr (h : PV X S0 H0 a fa) (hs : swapsWith a none pos.line X.env = pure false := by rfl) : PZ X S0 H0 (.Expr a pos) (gDrop fa) := by
  refine ⟨fun D D' ρ S l q => h.mono _ _ _ _ (fun _ _ q => l.1 _ _ q) q, PS.imp (ps_expr h.pe hs) fun D σ H ⟨ρ, S, re, rs, ex, q⟩ => ?_⟩
  exact ⟨ρ, S, re, rs, ex, h.mono _ _ _ _ (fun p S1 q v H1 rv rs1 ex1 => q σ H1 (re.ext rs ex1) rs1 ex1) q⟩
def gIf (c : PFB) (g g' : PFS) : PFS := fun D ρ S => c ρ S fun b S1 => cnd b (g D ρ S1) (g' D ρ S1)
theorem pz_if {c : Expr} {fc : PFB} {s1 s2 : List Stmt} (hc : PB X S0 H0 c fc) (h : PZs X S0 H0 s1 g) (h' : PZs X S0 H0 s2 g') : PZ X S0 H0 (.If c s1 s2 pos) (gIf fc g g') := by
  refine ⟨fun D D' ρ S l q => hc.mono _ _ _ _ (fun b S1 q => ?_) q, PS.imp (ps_if hc.pt h.pss h'.pss) fun D σ H ⟨ρ, S, re, rs, ex, q⟩ => ?_⟩
  · cases b with
    | true => exact h.mono _ _ _ _ l q
    | false => exact h'.mono _ _ _ _ l q
  · refine ⟨ρ, S, re, rs, ex, hc.mono _ _ _ _ (fun b S1 q H1 rs1 ex1 => ?_) q⟩
    cases b with
    | true => exact ⟨ρ, S1, re.ext rs ex1, rs1, ex.trans ex1, h.mono _ _ _ _ (lE_le ex1) q⟩
    | false => exact ⟨ρ, S1, re.ext rs ex1, rs1, ex.trans ex1, h'.mono _ _ _ _ (lE_le ex1) q⟩
def gSet (i : Nat) (f : PF) : PFS := fun D ρ S => f ρ S fun p S1 => D.nx (ρ.set i (some p)) S1
theorem pz_set (i : Nat) {x : Str} {pos' : Pos} (hN : X.N.Nodup) (h : PV X S0 H0 a fa) (hi : X.N[i]? = some x := by rfl) (hx : Loc X.env.scope x := by first | exact Or.inl rfl | exact Or.inr rfl) (hs : swapsWith a (some (.Name x pos')) pos.line X.env = pure false := by rfl)
    (hf : X.fn x = true ∨ X.env.scope.names.lookup x = some .local := by first | exact .inl rfl | exact .inr rfl | assumption) : PZ X S0 H0 (.Assign [.Name x pos'] a pos) (gSet i fa) := by
  refine ⟨fun D D' ρ S l q => h.mono _ _ _ _ (fun _ _ q => l.1 _ _ q) q, PS.imp (ps_set hN hi hx h.pe hs hf) fun D σ H ⟨ρ, S, re, rs, ex, q⟩ => ?_⟩
  exact ⟨ρ, S, re, rs, ex, h.mono _ _ _ _ (fun p S1 q v H1 rv rs1 ex1 => q _ H1 ((re.ext rs ex1).set i rv) rs1 ex1) q⟩
/-- a, b = .. (targets of names) -/
def gTgt (t : Tg) (f : PF) : PFS := fun D ρ S => f ρ S fun p S1 => match bindT S1 t p ρ with
  | some ρ' => D.nx ρ' S1
  | none => False
theorem pz_tgt {t : Tg} {tg : Expr} (h : PV X S0 H0 a fa) (hg : PG X tg (tgR X.K t)) (hs : swapsWithSole [tg] a pos.line X.env = pure false := by rfl) (hw : swappedStores [tg] a X.env = pure none := by rfl)
    (h1 : (assignEach [tg] X.env).map (·.2) = [assign tg X.env] := by rfl) : PZ X S0 H0 (.Assign [tg] a pos) (gTgt t fa) := by
  refine ⟨fun D D' ρ S l q => h.mono _ _ _ _ (fun _ _ q => ?_) q, PS.imp (ps_asg h.pe hg hs hw h1) fun D σ H ⟨ρ, S, re, rs, ex, q⟩ => ?_⟩
  · split at q
    · exact l.1 _ _ q
    · exact q
  · refine ⟨ρ, S, re, rs, ex, h.mono _ _ _ _ (fun p S1 q v H1 rv rs1 ex1 => ?_) q⟩
    split at q
    · rename_i ρ' e
      exact tg_run rs1 t p v σ ρ ρ' _ rv (re.ext rs ex1) e fun σ' r' _ => q σ' H1 r' rs1 ex1
    · exact q.elim
/-- a, b = x, y with plain locals (stored from the right) -/
def gPar (i j : Nat) (fs : PFs) : PFS := fun D ρ S => fs ρ S fun ps S1 => match ps with
  | [p, q] => D.nx ((ρ.set i (some p)).set j (some q)) S1
  | _ => False
theorem pz_par (i j : Nat) {x y : Str} {fs : PFs} {px py pt pt2 : Pos} {kt k2 : Nat} (hc : X.calm = true) (hN : X.N.Nodup) (hv : PVs X S0 H0 [a, b] fs) (hi : X.N[i]? = some x := by rfl) (hj : X.N[j]? = some y := by rfl) (hij : i ≠ j := by decide) (hx : X.env.scope.names.lookup x = some .local := by rfl) (hy : X.env.scope.names.lookup y = some .local := by rfl)
    (hw : swappedStores [.Tuple [.Name x px, .Name y py] kt pt] (.Tuple [a, b] k2 pt2) X.env = pure (some [x, y]) := by rfl) (hs : swapsWithSole [.Tuple [.Name x px, .Name y py] kt pt] (.Tuple [a, b] k2 pt2) pos.line X.env = pure false := by rfl) :
    PZ X S0 H0 (.Assign [.Tuple [.Name x px, .Name y py] kt pt] (.Tuple [a, b] k2 pt2) pos) (gPar i j fs) := by
  refine ⟨fun D D' ρ S l q => hv.mono _ _ _ _ (fun ps S1 q => ?_) q, PS.imp (ps_par hc hN hi hj hij hx hy hv.pa hw hs) fun D σ H ⟨ρ, S, re, rs, ex, q⟩ => ?_⟩
  · split at q
    · exact l.1 _ _ q
    · exact q
  · refine ⟨ρ, S, re, rs, ex, hv.mono _ _ _ _ (fun ps S1 q vs H1 rv rs1 ex1 => ?_) q⟩
    split at q
    · obtain ⟨v, u, rfl, r, r'⟩ := rv.two
      exact ⟨v, u, rfl, q _ H1 (((re.ext rs ex1).set i r).set j r') rs1 ex1⟩
    · exact q.elim
def gPar3 (i j l : Nat) (fs : PFs) : PFS := fun D ρ S => fs ρ S fun ps S1 => match ps with
  | [p, q, r] => D.nx (((ρ.set i (some p)).set j (some q)).set l (some r)) S1
  | _ => False

/-! ### for, while -/
def forW (gd : Sto → Prop) (t : Tg) (b : PFS) (D : Ends') : List Pv → Env' → Sto → Prop
  | [], ρ, S => gd S ∧ D.nx ρ S
  | x :: xs, ρ, S => gd S ∧ match bindT S t x ρ with
    | some ρ' => b { nx := forW gd t b D xs, rt := D.rt, bk := D.nx, ct := forW gd t b D xs } ρ' S
    | none => False
def gFor (fi : PFI) (t : Tg) (b : PFS) : PFS := fun D ρ S => fi ρ S fun its gd S1 => forW gd t b D its ρ S1
theorem forW_mono {gd : Sto → Prop} {t : Tg} {b : PFS} (hb : ∀ D D' ρ S, Ends'.le D D' → b D ρ S → b D' ρ S) {D D' : Ends'} (l : D.le D') : ∀ (its : List Pv) (ρ : Env') (S : Sto), forW gd t b D its ρ S → forW gd t b D' its ρ S
  | [], ρ, S, q => ⟨q.1, l.1 _ _ q.2⟩
  | x :: xs, ρ, S, q => by
    refine ⟨q.1, ?_⟩
    have q2 := q.2
    split at q2
    · exact hb { nx := forW gd t b D xs, rt := D.rt, bk := D.nx, ct := forW gd t b D xs } _ _ _ ⟨fun r s q => forW_mono hb l xs r s q, l.2.1, l.1, fun r s q => forW_mono hb l xs r s q⟩ q2
    · exact q2.elim
theorem pz_for {tg iter : Expr} {fi : PFI} {t : Tg} (hp : PassesOwn (model X.prog X.w) X.A X.env X.xe) (hc : X.calm = true) (hi : PIt X S0 H0 tg iter fi) (hg : PG X tg (tgR X.K t)) (hb : PZs X S0 H0 sts g)
    (hs : ∀ x, foldedSetIterable iter X.env x = pure x := by intro _; rfl) : PZ X S0 H0 (.For tg iter sts [] pos) (gFor fi t g) := by
  refine ⟨fun D D' ρ S l q => hi.mono _ _ _ _ (fun its gd S1 q => forW_mono hb.mono l its ρ S1 q) q, PS.imp (ps_for hp hc hi.pi hg hb.pss hs) fun D σ H ⟨ρ, S, re, rs, ex, q⟩ => ?_⟩
  refine ⟨ρ, S, re, rs, ex, hi.mono _ _ _ _ (fun its gd S1 q J H1 w rs1 ex1 => ?_) q⟩
  let D' : Ends' := lE X.K S H D
  have q' : forW gd t g D' its ρ S1 := q
  refine ⟨fun i m σ2 H2 => i + m = its.length ∧ ∃ ρ2 S2, RepE X.K H2 S2 σ2 ρ2 ∧ RepS X.K H2 S2 ∧ Ext S1 H1 S2 H2 ∧ forW gd t g D' (its.drop i) ρ2 S2, ⟨its.length, by omega, ρ, S1, re.ext rs ex1, rs1, Ext.refl _ _, by rw [List.drop_zero]; exact q'⟩, fun i m σ2 H2 hW => ?_⟩
  obtain ⟨em, ρ2, S2, re2, rs2, ex2, q2⟩ := hW
  cases hd : its.drop i with
  | nil =>
    rw [hd] at q2
    have hil : its.length ≤ i := by
      have := congrArg List.length hd
      simp at this
      omega
    have e0 : i = its.length := by omega
    subst e0
    exact .inl ⟨w.stop S2 H2 ex2 rs2 q2.1, q2.2 σ2 H2 re2 rs2 (ex1.trans ex2)⟩
  | cons x xs =>
    rw [hd] at q2
    have hil : i < its.length := by
      have := congrArg List.length hd
      simp at this
      omega
    have hx : its[i]? = some x := by
      have := congrArg (fun l => l[0]?) hd
      simpa using this
    have hxs : its.drop (i + 1) = xs := by
      have := congrArg (List.drop 1) hd
      simpa [Nat.add_comm] using this
    obtain ⟨hgo, hy⟩ := w.go S2 H2 i x ex2 rs2 q2.1 hx
    refine .inr ⟨hgo, fun σ3 H3 => ∃ ρ3 S3, RepE X.K H3 S3 σ3 ρ3 ∧ RepS X.K H3 S3 ∧ Ext S1 H1 S3 H3 ∧ forW gd t g D' xs ρ3 S3, fun σ3 H3 ⟨ρ3, S3, a1, a2, a3, a4⟩ => ⟨m - 1, by omega, by omega, ρ3, S3, a1, a2, a3, by rw [hxs]; exact a4⟩, fun v H3 yl => ?_⟩
    obtain ⟨rv, rs3, ex3⟩ := hy v H3 yl
    have q3 := q2.2
    split at q3
    · rename_i ρ' eb
      refine tg_run rs3 t x v σ2 ρ2 ρ' _ rv (re2.ext rs2 ex3) eb fun σ4 re4 _ => ?_
      have e23 := ex2.trans ex3
      have e03 := (ex.trans ex1).trans e23
      refine ⟨ρ', S2, re4, rs3, e03, hb.mono { nx := forW gd t g D' xs, rt := D'.rt, bk := D'.nx, ct := forW gd t g D' xs } _ _ _ ⟨?_, ?_, ?_, ?_⟩ q3⟩
      · exact fun ρ5 S5 q5 σ5 H5 a1 a2 a3 => ⟨ρ5, S5, a1, a2, e23.trans a3, q5⟩
      · exact fun p S5 q5 v5 H5 a1 a2 a3 => q5 v5 H5 a1 a2 ((ex1.trans e23).trans a3)
      · exact fun ρ5 S5 q5 σ5 H5 a1 a2 a3 => q5 σ5 H5 a1 a2 ((ex1.trans e23).trans a3)
      · exact fun ρ5 S5 q5 σ5 H5 a1 a2 a3 => ⟨ρ5, S5, a1, a2, e23.trans a3, q5⟩
    · exact q3.elim
def gWhile (c : PFB) (b : PFS) : PFS := fun D ρ S => ∃ (I : Nat → Env' → Sto → Prop), (∃ m, I m ρ S) ∧ ∀ m ρ S, I m ρ S → c ρ S fun k S1 =>
  cnd k (b { nx := fun ρ' S' => ∃ m', m' < m ∧ I m' ρ' S', rt := D.rt, bk := D.nx, ct := fun ρ' S' => ∃ m', m' < m ∧ I m' ρ' S' } ρ S1) (D.nx ρ S1)
theorem pz_while {c : Expr} {fc : PFB} (hp : PassesOwn (model X.prog X.w) X.A X.env X.xe) (hc : PB X S0 H0 c fc) (hb : PZs X S0 H0 sts g) : PZ X S0 H0 (.While c sts [] pos) (gWhile fc g) := by
  refine ⟨fun D D' ρ S l ⟨I, h0, q⟩ => ⟨I, h0, fun m ρ S h => hc.mono _ _ _ _ (fun k S1 q => ?_) (q m ρ S h)⟩, PS.imp (ps_while hp hc.pt hb.pss) fun D σ H ⟨ρ, S, re, rs, ex, I, ⟨m0, h0⟩, q⟩ => ?_⟩
  · cases k with
    | true => exact hb.mono { nx := fun ρ' S' => ∃ m', m' < m ∧ I m' ρ' S', rt := D.rt, bk := D.nx, ct := fun ρ' S' => ∃ m', m' < m ∧ I m' ρ' S' } _ _ _ ⟨fun _ _ q => q, l.2.1, l.1, fun _ _ q => q⟩ q
    | false => exact l.1 _ _ q
  · refine ⟨fun m σ2 H2 => ∃ ρ2 S2, RepE X.K H2 S2 σ2 ρ2 ∧ RepS X.K H2 S2 ∧ Ext S H S2 H2 ∧ I m ρ2 S2, ⟨m0, ρ, S, re, rs, Ext.refl _ _, h0⟩, fun m σ2 H2 ⟨ρ2, S2, re2, rs2, ex2, hI⟩ => ?_⟩
    refine ⟨ρ2, S2, re2, rs2, ex.trans ex2, hc.mono _ _ _ _ (fun k S3 q H3 rs3 ex3 => ?_) (q m ρ2 S2 hI)⟩
    have e3 := ex2.trans ex3
    cases k with
    | true =>
      refine ⟨fun σ4 H4 => ∃ m', m' < m ∧ ∃ ρ2 S2, RepE X.K H4 S2 σ4 ρ2 ∧ RepS X.K H4 S2 ∧ Ext S H S2 H4 ∧ I m' ρ2 S2, fun σ4 H4 h => h, ?_⟩
      refine ⟨ρ2, S3, re2.ext rs2 ex3, rs3, ex.trans e3, hb.mono { nx := fun ρ' S' => ∃ m', m' < m ∧ I m' ρ' S', rt := (lE X.K S H D).rt, bk := (lE X.K S H D).nx, ct := fun ρ' S' => ∃ m', m' < m ∧ I m' ρ' S' } _ _ _ ⟨?_, ?_, ?_, ?_⟩ q⟩
      · exact fun ρ5 S5 ⟨m', hm, q5⟩ σ5 H5 a1 a2 a3 => ⟨m', hm, ρ5, S5, a1, a2, e3.trans a3, q5⟩
      · exact fun p S5 q5 v5 H5 a1 a2 a3 => q5 v5 H5 a1 a2 (e3.trans a3)
      · exact fun ρ5 S5 q5 σ5 H5 a1 a2 a3 => q5 σ5 H5 a1 a2 (e3.trans a3)
      · exact fun ρ5 S5 ⟨m', hm, q5⟩ σ5 H5 a1 a2 a3 => ⟨m', hm, ρ5, S5, a1, a2, e3.trans a3, q5⟩
    | false => exact q σ2 H3 (re2.ext rs2 ex3) rs3 e3

/-! ### list comprehensions -/
def wipeP (ρ : Env') : List Nat → Env'
  | [] => ρ
  | v :: vs => (wipeP ρ vs).set v none
theorem RepE.wipe {K : PySem.W.Frag} {H : Hp} {S : Sto} {σ : L2.St} {ρ : Env'} (r : RepE K H S σ ρ) : ∀ vs : List Nat, RepE K H S (L2.wipe σ vs) (wipeP ρ vs)
  | [] => r
  | v :: vs => by
    have ih := RepE.wipe r vs
    refine ⟨by show ((L2.wipe σ vs).set v none).length = ((wipeP ρ vs).set v none).length; rw [List.length_set, List.length_set]; exact ih.1, fun i p h => ?_⟩
    have h' : ((wipeP ρ vs).set v none)[i]? = some (some p) := h
    show ∃ w, ((L2.wipe σ vs).set v none)[i]? = some (some w) ∧ _
    by_cases hi : v = i
    · subst hi
      rw [List.getElem?_set] at h'
      simp only [if_true] at h'
      split at h' <;> cases h'
    · rw [List.getElem?_set_ne hi] at h'
      obtain ⟨w, a1, a2⟩ := ih.2 i p h'
      exact ⟨w, by rw [List.getElem?_set_ne hi]; exact a1, a2⟩
def lcW (gd : Sto → Prop) (t : Tg) (tt : PFB) (te : PF) (ρ : Env') (D : Addr) (Q : List Pv → Sto → Prop) : List Pv → List Pv → Sto → Prop
  | [], acc, S => gd (put S D (.lst acc)) ∧ Q acc S
  | x :: xs, acc, S => gd (put S D (.lst acc)) ∧ match bindT (put S D (.lst acc)) t x ρ with
    | some ρ2 => tt ρ2 (put S D (.lst acc)) fun c S2 =>
        cnd c (te ρ2 S2 fun y S3 => S3 D = some (.lst acc) ∧ acc.length < sizeLine ∧ lcW gd t tt te ρ D Q xs (acc ++ [y]) (del S3 D))
          (S2 D = some (.lst acc) ∧ lcW gd t tt te ρ D Q xs acc (del S2 D))
    | none => False
def fLc (fi : PFI) (t : Tg) (tt : PFB) (te : PF) (vs : List Nat) : PF := fun ρ S Q => fi ρ S fun its gd S1 => ∀ D, S1 D = none → lcW gd t tt te (wipeP ρ vs) D (fun acc S' => Q (.lst acc) S') its [] S1
/-- .. the list is to be changed -/
def fLcT (fi : PFI) (t : Tg) (tt : PFB) (te : PF) (vs : List Nat) : PF := fun ρ S Q => fi ρ S fun its gd S1 => ∀ D, S1 D = none → lcW gd t tt te (wipeP ρ vs) D (fun acc S' => Q (.ref D) (put S' D (.lst acc))) its [] S1
def fYes : PFB := fun _ S Q => Q true S
theorem lcW_mono {gd : Sto → Prop} {t : Tg} {tt : PFB} {te : PF} {ρ : Env'} {D : Addr} (h1 : ∀ ρ S Q Q', (∀ p S', Q p S' → Q' p S') → tt ρ S Q → tt ρ S Q') (h2 : ∀ ρ S Q Q', (∀ p S', Q p S' → Q' p S') → te ρ S Q → te ρ S Q') {Q Q' : List Pv → Sto → Prop} (i : ∀ p S', Q p S' → Q' p S') :
    ∀ (its acc : List Pv) (S : Sto), lcW gd t tt te ρ D Q its acc S → lcW gd t tt te ρ D Q' its acc S
  | [], acc, S, q => ⟨q.1, i _ _ q.2⟩
  | x :: xs, acc, S, q => by
    refine ⟨q.1, ?_⟩
    have q2 := q.2
    split at q2
    · refine h1 _ _ _ _ (fun c S2 q => ?_) q2
      cases c with
      | true => exact h2 _ _ _ _ (fun y S3 q => ⟨q.1, q.2.1, lcW_mono h1 h2 i xs _ _ q.2.2⟩) q
      | false => exact ⟨q.1, lcW_mono h1 h2 i xs _ _ q.2⟩
    · exact q2.elim
/-- a test list of a comprehension -/
structure PBs (X : Cx) (S0 : Sto) (H0 : Hp) (ifs : List Expr) (f : PFB) : Prop where
  mono : ∀ ρ S Q Q', (∀ p S', Q p S' → Q' p S') → f ρ S Q → f ρ S Q'
  pts : PTs X ifs (liftB X.K S0 H0 f)
theorem pbs_nil : PBs X S0 H0 [] fYes := ⟨fun _ _ _ _ h q => h _ _ q, ⟨fun pins s σ H Q I ⟨ρ, S, re, rs, ex, q⟩ => pts_nil.run pins s σ H Q I (q H rs (Ext.refl S H))⟩⟩
theorem pbs_one {c : Expr} {fc : PFB} (h : PB X S0 H0 c fc) : PBs X S0 H0 [c] fc := ⟨h.mono, pts_one h.pt⟩
end
section
variable {K : PySem.W.Frag} {H H' : Hp} {S S' : Sto} {D : Addr}
/-! more in the heap or less in the store -/
mutual
theorem RepV.less (hh : ∀ a o, H a = some o → S a = none → H' a = some o ∧ S' a = none) (ht : ∀ a vs, SqT K H a vs → SqT K H' a vs) (hf : ∀ a o u, H a = some (.frz o u) → H' a = some (.frz o u)) : ∀ (p : Pv) (v : V), RepV K H S p v → RepV K H' S' p v
  | .non, _, h => h
  | .bl _, _, h => h
  | .int _, _, h => h
  | .str _, _, h => h
  | .tup ps, _, ⟨a, vs, e1, h, r⟩ => ⟨a, vs, e1, ht _ _ h, RepVs.less hh ht hf ps vs r⟩
  | .lst ps, _, ⟨a, vs, e1, h, hs, r⟩ => ⟨a, vs, e1, (hh _ _ h hs).1, (hh _ _ h hs).2, RepVs.less hh ht hf ps vs r⟩
  | .dct ks ps, _, ⟨a, kvs, e1, h, hs, r1, r2⟩ => ⟨a, kvs, e1, h.elim (fun h => .inl (hh _ _ h hs).1) (fun ⟨o, h⟩ => .inr ⟨o, hf _ _ _ h⟩), h.elim (fun h => (hh _ _ h hs).2) (fun ⟨o, h⟩ => (hh _ _ h hs).2), RepVs.less hh ht hf ks _ r1, RepVs.less hh ht hf ps _ r2⟩
  | .ref _, _, h => h
  | .ty _, _, h => h
  | .scr ps, _, ⟨a, vs, e1, h, r⟩ => ⟨a, vs, e1, h.elim (fun ⟨o, z⟩ => .inl ⟨o, hf _ _ _ z⟩) .inr, RepVs.less hh ht hf ps vs r⟩
theorem RepVs.less (hh : ∀ a o, H a = some o → S a = none → H' a = some o ∧ S' a = none) (ht : ∀ a vs, SqT K H a vs → SqT K H' a vs) (hf : ∀ a o u, H a = some (.frz o u) → H' a = some (.frz o u)) : ∀ (ps : List Pv) (vs : List V), RepVs K H S ps vs → RepVs K H' S' ps vs
  | [], _, h => h
  | p :: ps, _, ⟨v, r, e1, h1, h2⟩ => ⟨v, r, e1, RepV.less hh ht hf p v h1, RepVs.less hh ht hf ps r h2⟩
end
/-- a smaller store -/
def Sub (S' S : Sto) : Prop := ∀ a m, S' a = some m → S a = some m
theorem Sub.free (h : Sub S' S) {a : Addr} (e : S a = none) : S' a = none := by
  cases q : S' a with
  | none => rfl
  | some m => rw [h a m q] at e; cases e
theorem RepV.sub (h : Sub S' S) {p : Pv} {v : V} (r : RepV K H S p v) : RepV K H S' p v := RepV.less (fun a o e f => ⟨e, h.free f⟩) (fun _ _ q => q) (fun _ _ _ q => q) p v r
theorem RepVs.sub (h : Sub S' S) {p : List Pv} {v : List V} (r : RepVs K H S p v) : RepVs K H S' p v := RepVs.less (fun a o e f => ⟨e, h.free f⟩) (fun _ _ q => q) (fun _ _ _ q => q) p v r
theorem RepS.sub (h : Sub S' S) (r : RepS K H S) : RepS K H S' := fun a m e => by
  have q := r a m (h a m e)
  cases m with
  | lst xs => obtain ⟨vs, e1, r1⟩ := q; exact ⟨vs, e1, r1.sub h⟩
  | dct ks xs => obtain ⟨vs, e1, r1, r2⟩ := q; exact ⟨vs, e1, r1.sub h, r2.sub h⟩
  | tab n => exact q
  | exc C => exact q
  | lck o kvs => exact q
theorem RepE.sub {σ : L2.St} {ρ : Env'} (h : Sub S' S) (r : RepE K H S σ ρ) : RepE K H S' σ ρ := ⟨r.1, fun i p e => let ⟨v, a1, a2⟩ := r.2 i p e; ⟨v, a1, a2.sub h⟩⟩
theorem Ext.sub {S0 : Sto} {H0 : Hp} (h : Sub S' S) (e : Ext S0 H0 S H) : Ext S0 H0 S' H := ⟨e.keep, fun a n => e.new a fun z => n (h.free z)⟩
theorem Sub.refl (S : Sto) : Sub S S := fun _ _ h => h
theorem Sub.trans {S1 S2 S3 : Sto} (a : Sub S1 S2) (b : Sub S2 S3) : Sub S1 S3 := fun x m h => b x m (a x m h)
theorem Sub.put {m : Mo} (h : S D = none) : Sub S (put S D m) := fun a o e => by
  rw [put_ne (by rintro rfl; rw [h] at e; cases e)]; exact e
theorem Sub.put2 {a : Addr} {m : Mo} (h : Sub S' S) : Sub (PL.put S' a m) (PL.put S a m) := fun b o e => by
  by_cases z : b = a
  · subst z; simpa using e
  · rw [put_ne z] at e ⊢; exact h b o e
theorem Sub.del : Sub (del S D) S := fun a m e => by
  by_cases z : a = D
  · subst z; simp at e
  · rw [del_ne z] at e; exact e
theorem put_del {m : Mo} : put (PL.del S D) D m = put S D m := by
  funext b; simp only [put, PL.del]; split <;> rfl
theorem put_self {m : Mo} (h : S D = some m) : put S D m = S := by
  funext b; simp only [put]; split
  · rename_i e; rw [e, h]
  · rfl
/-- the object at D is changed -/
theorem Ext.chg {m m' : Mo} {o : HO} (h : S D = some m) : Ext S H (put S D m') (upd H D o) :=
  ⟨fun a u ha hs => by rw [upd_ne (by rintro rfl; rw [h] at hs; cases hs)]; exact ha, fun a ha => by
    by_cases e : a = D
    · subst e; exact .inl (by rw [h]; simp)
    · rw [put_ne e] at ha; exact .inl ha⟩
theorem RepS.chg {m : Mo} {xs : List Pv} {vs : List V} (rs : RepS K H S) (h : S D = some m) (r : RepVs K H S xs vs) : RepS K (upd H D (.lst vs)) (put S D (.lst xs)) := fun a m' ha => by
  have e := Ext.chg (H := H) (m' := .lst xs) (o := .lst vs) h
  by_cases z : a = D
  · subst z
    rw [put_same] at ha; cases ha
    exact ⟨vs, upd_same, RepVs.ext rs e _ _ r⟩
  · rw [put_ne z] at ha
    have q := rs a m' ha
    cases m' with
    | lst ys => obtain ⟨us, e1, r⟩ := q; exact ⟨us, by rw [upd_ne z]; exact e1, RepVs.ext rs e _ _ r⟩
    | dct ks ys => obtain ⟨us, e1, r, r'⟩ := q; exact ⟨us, by rw [upd_ne z]; exact e1, RepVs.ext rs e _ _ r, RepVs.ext rs e _ _ r'⟩
    | tab n => exact tab_ext rs e q (by rw [upd_ne z])
    | exc C => obtain ⟨oe, e1, r⟩ := q; exact ⟨oe, by rw [upd_ne z]; exact e1, r⟩
    | lck o kvs => exact (upd_ne z).trans q
end
theorem wipe_wipe (σ : L2.St) : ∀ (us vs : List Nat), (∀ i ∈ vs, i ∈ us) → wipe (wipe σ vs) us = wipe σ us
  | us, [], _ => rfl
  | us, v :: vs, h => by
    show wipe ((wipe σ vs).set v none) us = _
    rw [wipe_set (h v List.mem_cons_self)]
    exact wipe_wipe σ us vs fun i hi => h i (List.mem_cons_of_mem _ hi)
section
variable {X : Cx} {S0 : Sto} {H0 : Hp} {a b : Expr} {fa fb : PF} {pos : Pos}
theorem lc_sim {fi : PFI} {t : Tg} {tt : PFB} {te : PF} {vs : List Nat} {tg iter : Expr} (hi : PIt X S0 H0 tg iter fi) (hv : ∀ i ∈ slotsT t, i ∈ vs) (m1 : ∀ ρ S Q Q', (∀ p S', Q p S' → Q' p S') → tt ρ S Q → tt ρ S Q') (m2 : ∀ ρ S Q Q', (∀ p S', Q p S' → Q' p S') → te ρ S Q → te ρ S Q')
    {σ : L2.St} {H : Hp} {Q : VK} {ρ : Env'} {S : Sto} {F : Addr → List Pv → Sto → Prop} (re : RepE X.K H S σ ρ) (rs : RepS X.K H S) (ex : Ext S0 H0 S H) (q : fi ρ S fun its gd S1 => ∀ D, S1 D = none → lcW gd t tt te (wipeP ρ vs) D (F D) its [] S1)
    (fin : ∀ D acc S' H', F D acc S' → S' D = none → RepS X.K H' (put S' D (.lst acc)) → Ext S H (put S' D (.lst acc)) H' → Q (.ref D) H') :
    tLc (liftI X.K S0 H0 fi) (tgR X.K t) (liftB X.K S0 H0 tt) (lift X.K S0 H0 te) vs σ H Q := by
  refine ⟨ρ, S, re, rs, ex, hi.mono _ _ _ _ (fun its gd S1 q J H1 w rs1 ex1 => ?_) q⟩
  intro D hD
  have q := q D (rs1.fr hD)
  refine ⟨fun i m H2 => i + m = its.length ∧ ∃ acc S2, S2 D = none ∧ RepS X.K H2 (put S2 D (.lst acc)) ∧ Ext S1 H1 (put S2 D (.lst acc)) H2 ∧ lcW gd t tt te (wipeP ρ vs) D (F D) (its.drop i) acc S2,
    ⟨its.length, by omega, [], S1, rs1.fr hD, rs1.newL hD rfl, Ext.newS hD, by rw [List.drop_zero]; exact q⟩, fun i m H2 hW => ?_⟩
  obtain ⟨em, acc, S2, n2, rs2, ex2, q2⟩ := hW
  cases hd : its.drop i with
  | nil =>
    rw [hd] at q2
    have hil : its.length ≤ i := by
      have := congrArg List.length hd
      simp at this
      omega
    have e0 : i = its.length := by omega
    subst e0
    exact .inl ⟨w.stop _ H2 ex2 rs2 q2.1, fin D acc S2 H2 q2.2 n2 rs2 (ex1.trans ex2)⟩
  | cons x xs =>
    rw [hd] at q2
    have hil : i < its.length := by
      have := congrArg List.length hd
      simp at this
      omega
    have hx : its[i]? = some x := by
      have := congrArg (fun l => l[0]?) hd
      simpa using this
    have hxs : its.drop (i + 1) = xs := by
      have := congrArg (List.drop 1) hd
      simpa [Nat.add_comm] using this
    obtain ⟨hgo, hy⟩ := w.go _ H2 i x ex2 rs2 q2.1 hx
    refine .inr ⟨hgo, fun H3 => ∃ acc S3, S3 D = none ∧ RepS X.K H3 (put S3 D (.lst acc)) ∧ Ext S1 H1 (put S3 D (.lst acc)) H3 ∧ lcW gd t tt te (wipeP ρ vs) D (F D) xs acc S3, fun H3 ⟨acc', S3, a1, a2, a3, a4⟩ => ⟨m - 1, by omega, by omega, acc', S3, a1, a2, a3, by rw [hxs]; exact a4⟩, fun v H3 yl => ?_⟩
    obtain ⟨rv, rs3, ex3⟩ := hy v H3 yl
    have q3 := q2.2
    split at q3
    · rename_i ρ' eb
      have e13 := ex2.trans ex3
      have re3 : RepE X.K H3 (put S2 D (.lst acc)) (L2.wipe σ vs) (wipeP ρ vs) := (re.ext rs (ex1.trans e13)).wipe vs
      refine tg_run rs3 t x v (L2.wipe σ vs) (wipeP ρ vs) ρ' _ rv re3 eb fun σ4 re4 w4 => ⟨by rw [w4 vs hv]; exact wipe_wipe σ vs vs fun i h => h, ?_⟩
      have e03 := (ex.trans ex1).trans e13
      refine ⟨ρ', _, re4, rs3, e03, m1 _ _ _ _ (fun c S5 q5 H5 rs5 ex5 => ?_) q3⟩
      have e15 := e13.trans ex5
      cases c with
      | true =>
        refine ⟨ρ', S5, re4.ext rs3 ex5, rs5, e03.trans ex5, m2 _ _ _ _ (fun y S6 q6 yv H6 ry rs6 ex6 => ?_) q5⟩
        obtain ⟨h1, h2, h3⟩ := q6
        obtain ⟨av, hav, ra⟩ := rs6 D _ h1
        refine ⟨av, hav, by rw [ra.len]; exact h2, acc ++ [y], del S6 D, by simp, ?_, ?_, h3⟩
        · rw [put_del]
          exact rs6.chg h1 (ra.app ⟨yv, [], rfl, ry, rfl⟩)
        · rw [put_del]
          exact (e15.trans ex6).trans (Ext.chg h1)
      | false =>
        obtain ⟨h1, h2⟩ := q5
        refine ⟨acc, del S5 D, by simp, ?_, ?_, h2⟩
        · rw [put_del, put_self h1]; exact rs5
        · rw [put_del, put_self h1]; exact e15
    · exact q3.elim
theorem lc_fin {K : PySem.W.Frag} {S : Sto} {H : Hp} {Q : VK} {G : QV} {acc : List Pv} {S' : Sto} {D : Addr} {H' : Hp} (g : G (.lst acc) S') (hn : S' D = none) (rs : RepS K H' (put S' D (.lst acc))) (e : Ext S H (put S' D (.lst acc)) H') (hG : ∀ p S', G p S' → ∀ v H', RepV K H' S' p v → RepS K H' S' → Ext S H S' H' → Q v H') : Q (.ref D) H' := by
  obtain ⟨vs, e1, r⟩ := rs D _ put_same
  have sb : Sub S' (put S' D (.lst acc)) := Sub.put hn
  exact hG _ _ g (.ref D) H' ⟨D, vs, rfl, e1, hn, r.sub sb⟩ (rs.sub sb) (e.sub sb)
variable {elt tg iter : Expr} {ifs : List Expr} {scope : Scope} {fi : PFI} {t : Tg} {tt : PFB} {te : PF}
theorem fLc_mono {vs : List Nat} (hi : PIt X S0 H0 tg iter fi) (m1 : ∀ ρ S Q Q', (∀ p S', Q p S' → Q' p S') → tt ρ S Q → tt ρ S Q') (m2 : ∀ ρ S Q Q', (∀ p S', Q p S' → Q' p S') → te ρ S Q → te ρ S Q') : ∀ ρ S Q Q', (∀ p S', Q p S' → Q' p S') → fLc fi t tt te vs ρ S Q → fLc fi t tt te vs ρ S Q' :=
  fun ρ S Q Q' i q => hi.mono _ _ _ _ (fun its gd S1 q D hD => lcW_mono m1 m2 (fun _ _ q => i _ _ q) its [] S1 (q D hD)) q
theorem fLcT_mono {vs : List Nat} (hi : PIt X S0 H0 tg iter fi) (m1 : ∀ ρ S Q Q', (∀ p S', Q p S' → Q' p S') → tt ρ S Q → tt ρ S Q') (m2 : ∀ ρ S Q Q', (∀ p S', Q p S' → Q' p S') → te ρ S Q → te ρ S Q') : ∀ ρ S Q Q', (∀ p S', Q p S' → Q' p S') → fLcT fi t tt te vs ρ S Q → fLcT fi t tt te vs ρ S Q' :=
  fun ρ S Q Q' i q => hi.mono _ _ _ _ (fun its gd S1 q D hD => lcW_mono m1 m2 (fun _ _ q => i _ _ q) its [] S1 (q D hD)) q
/-- the block's parts hold whatever the block's frame is -/
abbrev Blk (X : Cx) (scope : Scope) (P : Cx → Prop) : Prop := ∀ (s : Shared) (H : Hp) (C : Addr) (cl : List (Str × Addr)) (fp : List Addr), P (X.blk s H scope (compEnvC scope cl C X.env) fp)
theorem pv_lc (own : List (Str × Nat)) (hc : X.calm = true) (hN : X.N.Nodup) (hi : PIt X S0 H0 tg iter fi) (ok : BlkOk X.N X.env.scope scope own) (hg : Blk X scope fun Y => PG Y tg (tgR X.K t)) (ht : Blk X scope fun Y => PBs Y S0 H0 ifs tt) (he : Blk X scope fun Y => PV Y S0 H0 elt te)
    (hv : ∀ i ∈ slotsT t, i ∈ own.map (·.2) := by decide) (hs : ∀ x, foldedSetIterable iter X.env x = pure x := by intro _; rfl) : PV X S0 H0 (.ListComp elt [⟨tg, iter, ifs, 0⟩] scope pos) (fLc fi t tt te (own.map (·.2))) := by
  have m1 := (ht X.s_0 X.H_0 0 [] []).mono
  have m2 := (he X.s_0 X.H_0 0 [] []).mono
  refine ⟨fLc_mono hi m1 m2, PE.imp (pe_lc (te := lift X.K S0 H0 te) (tt := liftB X.K S0 H0 tt) hc hN hi.pi ok hg (fun s H C cl fp => (ht s H C cl fp).pts) (fun s H C cl fp => (he s H C cl fp).pe) hs) fun σ H Q ⟨ρ, S, re, rs, ex, q⟩ => ?_⟩
  exact lc_sim hi hv m1 m2 re rs ex q fun D acc S' H' g hn rs' e' => lc_fin (G := fun p S' => ∀ v H', RepV X.K H' S' p v → RepS X.K H' S' → Ext S H S' H' → Q v H') g hn rs' e' fun p S' h => h
theorem pv_lcT (own : List (Str × Nat)) (hc : X.calm = true) (hN : X.N.Nodup) (hi : PIt X S0 H0 tg iter fi) (ok : BlkOk X.N X.env.scope scope own) (hg : Blk X scope fun Y => PG Y tg (tgR X.K t)) (ht : Blk X scope fun Y => PBs Y S0 H0 ifs tt) (he : Blk X scope fun Y => PV Y S0 H0 elt te)
    (hv : ∀ i ∈ slotsT t, i ∈ own.map (·.2) := by decide) (hs : ∀ x, foldedSetIterable iter X.env x = pure x := by intro _; rfl) : PV X S0 H0 (.ListComp elt [⟨tg, iter, ifs, 0⟩] scope pos) (fLcT fi t tt te (own.map (·.2))) := by
  have m1 := (ht X.s_0 X.H_0 0 [] []).mono
  have m2 := (he X.s_0 X.H_0 0 [] []).mono
  refine ⟨fLcT_mono hi m1 m2, PE.imp (pe_lc (te := lift X.K S0 H0 te) (tt := liftB X.K S0 H0 tt) hc hN hi.pi ok hg (fun s H C cl fp => (ht s H C cl fp).pts) (fun s H C cl fp => (he s H C cl fp).pe) hs) fun σ H Q ⟨ρ, S, re, rs, ex, q⟩ => ?_⟩
  exact lc_sim hi hv m1 m2 re rs ex q fun D acc S' H' g hn rs' e' => g (.ref D) H' rfl rs' e'
/-- name = [..] on one line -/
theorem pz_setLc (i : Nat) {y : Str} {py spos : Pos} (own : List (Str × Nat)) (hc : X.calm = true) (hN : X.N.Nodup) (hi : PIt X S0 H0 tg iter fi) (ok : BlkOk X.N X.env.scope scope own) (hg : Blk X scope fun Y => PG Y tg (tgR X.K t)) (ht : Blk X scope fun Y => PBs Y S0 H0 ifs tt) (he : Blk X scope fun Y => PV Y S0 H0 elt te)
    (hsw : swapsWith (.ListComp elt [⟨tg, iter, ifs, 0⟩] scope pos) (some (.Name y py)) spos.line X.env = pure true)
    (hy : X.N[i]? = some y := by rfl) (hyl : X.env.scope.names.lookup y = some .local := by rfl) (hv : ∀ i ∈ slotsT t, i ∈ own.map (·.2) := by decide) (hs : ∀ x, foldedSetIterable iter X.env x = pure x := by intro _; rfl) : PZ X S0 H0 (.Assign [.Name y py] (.ListComp elt [⟨tg, iter, ifs, 0⟩] scope pos) spos) (gSet i (fLc fi t tt te (own.map (·.2)))) := by
  have m1 := (ht X.s_0 X.H_0 0 [] []).mono
  have m2 := (he X.s_0 X.H_0 0 [] []).mono
  refine ⟨fun D D' ρ S l q => fLc_mono hi m1 m2 _ _ _ _ (fun _ _ q => l.1 _ _ q) q, PS.imp (ps_setLc (te := lift X.K S0 H0 te) (tt := liftB X.K S0 H0 tt) hc hN hy hyl hsw hi.pi ok hg (fun s H C cl fp => (ht s H C cl fp).pts) (fun s H C cl fp => (he s H C cl fp).pe) hs) fun D σ H ⟨ρ, S, re, rs, ex, q⟩ => ?_⟩
  refine lc_sim hi hv m1 m2 re rs ex q fun L acc S' H' g hn rs' e' => ?_
  exact lc_fin (Q := fun x H1 => gName i x σ H1 D.nx) (G := fun p S' => (lE X.K S H D).nx (ρ.set i (some p)) S') g hn rs' e' fun p S' h v H' a1 a2 a3 => h _ H' ((re.ext rs a3).set i a1) a2 a3
theorem pz_setLcT (i : Nat) {y : Str} {py spos : Pos} (own : List (Str × Nat)) (hc : X.calm = true) (hN : X.N.Nodup) (hi : PIt X S0 H0 tg iter fi) (ok : BlkOk X.N X.env.scope scope own) (hg : Blk X scope fun Y => PG Y tg (tgR X.K t)) (ht : Blk X scope fun Y => PBs Y S0 H0 ifs tt) (he : Blk X scope fun Y => PV Y S0 H0 elt te)
    (hsw : swapsWith (.ListComp elt [⟨tg, iter, ifs, 0⟩] scope pos) (some (.Name y py)) spos.line X.env = pure true)
    (hy : X.N[i]? = some y := by rfl) (hyl : X.env.scope.names.lookup y = some .local := by rfl) (hv : ∀ i ∈ slotsT t, i ∈ own.map (·.2) := by decide) (hs : ∀ x, foldedSetIterable iter X.env x = pure x := by intro _; rfl) : PZ X S0 H0 (.Assign [.Name y py] (.ListComp elt [⟨tg, iter, ifs, 0⟩] scope pos) spos) (gSet i (fLcT fi t tt te (own.map (·.2)))) := by
  have m1 := (ht X.s_0 X.H_0 0 [] []).mono
  have m2 := (he X.s_0 X.H_0 0 [] []).mono
  refine ⟨fun D D' ρ S l q => fLcT_mono hi m1 m2 _ _ _ _ (fun _ _ q => l.1 _ _ q) q, PS.imp (ps_setLc (te := lift X.K S0 H0 te) (tt := liftB X.K S0 H0 tt) hc hN hy hyl hsw hi.pi ok hg (fun s H C cl fp => (ht s H C cl fp).pts) (fun s H C cl fp => (he s H C cl fp).pe) hs) fun D σ H ⟨ρ, S, re, rs, ex, q⟩ => ?_⟩
  exact lc_sim hi hv m1 m2 re rs ex q fun L acc S' H' g hn rs' e' => g _ H' ((re.ext rs e').set i (p := .ref L) (v := .ref L) rfl) rs' e'

/-! ### lists that are changed -/
@[irreducible] def oAppend (x : Pv) (ps : List Pv) (S : Sto) (Q : QV) : Prop := match x, ps with
  | .ref a, [p] => (match S a with
    | some (.lst xs) => xs.length < sizeLine ∧ Q .non (put S a (.lst (xs ++ [p])))
    | _ => False)
  | _, _ => False
/-- o.m(..): ck is what is asked of the object ahead of the arguments -/
def fMeth (ck : Sto → Pv → Bool) (o : Pv → List Pv → Sto → QV → Prop) (fa : PF) (fs : PFs) : PF := fun ρ S Q => fa ρ S fun x S1 => ck S1 x = true ∧ fs ρ S1 fun ps S2 => o x ps S2 Q
def ckL (S : Sto) (x : Pv) : Bool := (rdL S x).isSome
theorem ckL_ty {K : PySem.W.Frag} {H : Hp} {S : Sto} (rs : RepS K H S) {x : Pv} {v : V} (r : RepV K H S x v) (h : ckL S x = true) : tyV K "list" v H := by
  unfold ckL at h
  obtain ⟨xs, e⟩ := Option.isSome_iff_exists.mp h
  obtain ⟨a, vs, rfl, hq, _⟩ := rdL_rep rs r e
  exact .inl ⟨rfl, vs, hq⟩
theorem fMeth_mono {ck : Sto → Pv → Bool} {o : Pv → List Pv → Sto → QV → Prop} {es : List Expr} {fs : PFs} (m : ∀ x ps S Q Q', (∀ p S', Q p S' → Q' p S') → o x ps S Q → o x ps S Q') (ha : PV X S0 H0 a fa) (hb : PVs X S0 H0 es fs) : ∀ ρ S Q Q', (∀ p S', Q p S' → Q' p S') → fMeth ck o fa fs ρ S Q → fMeth ck o fa fs ρ S Q' :=
  fun ρ S Q Q' i q => ha.mono _ _ _ _ (fun x S1 q => ⟨q.1, hb.mono _ _ _ _ (fun ps S2 q => m _ _ _ _ _ i q) q.2⟩) q
theorem lift_meth {T : String} {ck : Sto → Pv → Bool} {o : Pv → List Pv → Sto → QV → Prop} {r : V → List V → Hp → VK → Prop} {es : List Expr} {fs : PFs} (hck : ∀ (S : Sto) (x : Pv) (v : V) (H : Hp), RepS X.K H S → RepV X.K H S x v → ck S x = true → tyV X.K T v H)
    (ho : ∀ x ps S Qp v vs H Q, RepV X.K H S x v → RepVs X.K H S ps vs → RepS X.K H S → o x ps S Qp → (∀ p S' z H', Qp p S' → RepV X.K H' S' p z → RepS X.K H' S' → Ext S H S' H' → Q z H') → r v vs H Q) (ha : PV X S0 H0 a fa) (hb : PVs X S0 H0 es fs) {σ : L2.St} {H : Hp} {Q : VK} (h : lift X.K S0 H0 (fMeth ck o fa fs) σ H Q) :
    tBM X.K T r (lift X.K S0 H0 fa) (liftA X.K S0 H0 fs) σ H Q := by
  obtain ⟨ρ, S, re, rs, ex, q⟩ := h
  refine ⟨ρ, S, re, rs, ex, ha.mono _ _ _ _ (fun x S1 q v H1 rv rs1 ex1 => ⟨hck S1 x v H1 rs1 rv q.1, ?_⟩) q⟩
  refine ⟨ρ, S1, re.ext rs ex1, rs1, ex.trans ex1, hb.mono _ _ _ _ (fun ps S2 q vs H2 rvs rs2 ex2 => ?_) q.2⟩
  exact ho x ps S2 _ v vs H2 Q (RepV.ext rs1 ex2 x v rv) rvs rs2 q fun p S' z H' q rz rs' ex' => q z H' rz rs' ((ex1.trans ex2).trans ex')
theorem pv_append {e : Expr} {fs : PFs} {apos cpos : Pos} (ha : PV X S0 H0 a fa) (hb : PVs X S0 H0 [e] fs) (hbase : attributeBase a "append" X.env (eval a X.env) = eval a X.env := by rfl)
    (hfew : ((backTo cpos (starEach [e] X.env)).all (fun x => !x.1) && (backToKw cpos (keywordEach [] X.env)).all (fun x => x.1.isSome) && decide ([e].length + ([] : List Keyword).length + (if ([] : List Keyword).isEmpty then 0 else 1) < 30)) = true := by rfl)
    (hline : (apos.endLine == cpos.line) = true := by rfl) (hs : starEach [e] X.env = (false, eval e X.env) :: starEach [] X.env := by rfl) (hplain : (backTo cpos (starEach [] X.env)).any (·.1) = false := by rfl) :
    PV X S0 H0 (.Call (.Attribute a "append" apos) [e] [] cpos) (fMeth ckL oAppend fa fs) := by
  have m : ∀ x ps S Q Q', (∀ p S', Q p S' → Q' p S') → oAppend x ps S Q → oAppend x ps S Q' := fun x ps S Q Q' i q => by
    unfold oAppend at q ⊢
    split at q
    · split at q
      · exact ⟨q.1, i _ _ q.2⟩
      · exact q
    · exact q
  refine ⟨fMeth_mono m ha hb, PE.imp (pe_bm PySem.F.plainAttrs_list PySem.F.slot_list_append PySem.F.type_list_append mt_append ha.pe hb.pa hbase hfew hline hs hplain) fun σ H Q h => lift_meth (fun S x v H rs r h => ckL_ty rs r h) (fun x ps S Qp v vs H Q rv rvs rs h k => ?_) ha hb h⟩
  unfold oAppend at h
  split at h
  · split at h
    · rename_i xs e
      obtain ⟨us, hu, ru⟩ := rs _ _ e
      obtain ⟨pv, rfl, rp⟩ := rvs.one
      exact ⟨_, us, pv, rv, rfl, hu, by rw [ru.len]; exact h.1, k _ _ _ _ h.2 rfl (rs.chg e (ru.app ⟨pv, [], rfl, rp, rfl⟩)) (Ext.chg e)⟩
    · exact h.elim
  · exact h.elim
/-- o[i] = e, a list -/
@[irreducible] def oSetIx (x y p : Pv) (S : Sto) (Q : Sto → Prop) : Prop := match x, y with
  | .ref a, .int i => (match S a with
    | some (.lst xs) => (match ixN xs.length i with | some j => Q (put S a (.lst (xs.set j p))) | none => False)
    | _ => False)
  | _, _ => False
def gSetIx (fe fo fi : PF) : PFS := fun D ρ S => fe ρ S fun p S1 => fo ρ S1 fun x S2 => fi ρ S2 fun y S3 => oSetIx x y p S3 fun S4 => D.nx ρ S4
theorem pz_setIx {o i e : Expr} {fe fo fi : PF} {pos2 : Pos} (he : PV X S0 H0 e fe) (ho : PV X S0 H0 o fo) (hi : PV X S0 H0 i fi)
    (ha : ∀ v, assign (.Subscript o i pos2) X.env v = (do
      let ov ← holding [v] (eval o X.env)
      let iv ← holding [v, ov] (eval i X.env)
      standAt pos2
      holding [v, ov, iv] (setItem ov iv v)
      release [v, ov, iv] []) := by intro _; rfl) (hs : swapsWithSole [.Subscript o i pos2] e pos.line X.env = pure false := by rfl) (hw : swappedStores [.Subscript o i pos2] e X.env = pure none := by rfl)
    (h1 : (assignEach [.Subscript o i pos2] X.env).map (·.2) = [assign (.Subscript o i pos2) X.env] := by rfl) : PZ X S0 H0 (.Assign [.Subscript o i pos2] e pos) (gSetIx fe fo fi) := by
  have m : ∀ x y p S (Q Q' : Sto → Prop), (∀ S', Q S' → Q' S') → oSetIx x y p S Q → oSetIx x y p S Q' := fun x y p S Q Q' i q => by
    unfold oSetIx at q ⊢
    split at q
    · split at q
      · split at q
        · exact i _ q
        · exact q
      · exact q
    · exact q
  refine ⟨fun D D' ρ S l q => he.mono _ _ _ _ (fun p S1 q => ho.mono _ _ _ _ (fun x S2 q => hi.mono _ _ _ _ (fun y S3 q => m _ _ _ _ _ _ (fun S4 q => l.1 _ _ q) q) q) q) q, PS.imp (ps_asg he.pe (pg_sub ho.pe hi.pe set_list ha) hs hw h1) fun D σ H ⟨ρ, S, re, rs, ex, q⟩ => ?_⟩
  refine ⟨ρ, S, re, rs, ex, he.mono _ _ _ _ (fun p S1 q v H1 rv rs1 ex1 => ?_) q⟩
  refine ⟨ρ, S1, re.ext rs ex1, rs1, ex.trans ex1, ho.mono _ _ _ _ (fun x S2 q xv H2 rx rs2 ex2 => ?_) q⟩
  have e2 := ex1.trans ex2
  refine ⟨ρ, S2, re.ext rs e2, rs2, ex.trans e2, hi.mono _ _ _ _ (fun y S3 q yv H3 ry rs3 ex3 => ?_) q⟩
  have e3 := e2.trans ex3
  unfold oSetIx at q
  split at q
  · split at q
    · rename_i xs e
      split at q
      · rename_i j ej
        obtain ⟨us, hu, ru⟩ := rs3 _ _ e
        have rv3 := RepV.ext rs1 (ex2.trans ex3) p v rv
        have rsn := rs3.chg e (ru.set j rv3)
        have en := e3.trans (Ext.chg (H := H3) (m' := .lst (xs.set j p)) (o := .lst (us.set j v)) e)
        exact ⟨_, us, _, j, rx, ry, hu, by rw [ru.len]; exact ej, q σ _ (re.ext rs en) rsn en⟩
      · exact q.elim
    · exact q.elim
  · exact q.elim
end
end PL

/-! The pure layer, part 5: defs, calls, raise, the end. -/
namespace PL
open PySem PySem.Spec PyProof.Rows L2

/-- an exception that is let out: its class's name -/
abbrev QE := Str → Sto → Prop
/-- a def's promise over pure values: arguments, store, what is wanted of its value, of a class that it raises -/
abbrev PSp := List Pv → Sto → QV → QE → Prop
def liftSp (K : PySem.W.Frag) (mg : Str → Option Value) (psp : PSp) : Sp := fun vs H Q E => ∃ ps S, RepVs K H S ps vs ∧ RepS K H S ∧
  psp ps S (fun p S' => ∀ v H', RepV K H' S' p v → RepS K H' S' → Ext S H S' H' → Q v H') fun c S' => ∀ C H', mg c = some (.ref C) → RepS K H' S' → Ext S H S' H' → E (.ref C) none H'
structure FnG (P : Program) (w : World) (K : PySem.W.Frag) (mg : Str → Option Value) (base : Heap) (k : Nat) (f : Addr) (fd : FuncData) (ps : List Str) (psp : PSp) : Prop where
  len : ∀ xs S Q E, psp xs S Q E → xs.length = ps.length
  mono : ∀ xs S (Q Q' : QV) (E E' : QE), (∀ p S', Q p S' → Q' p S') → (∀ C S', E C S' → E' C S') → psp xs S Q E → psp xs S Q' E'
  run : ∀ (A : Around) (outer : List Env) (s : Shared) (H : Hp) (args : Args) (us : List Value) (vs : List V) (Q : VK) (E : XK), Room k A → A.guards = some [] → Env0 P w K mg base A outer s H → BindsTo s fd args (ps.zip us) → Vals vs us →
    liftSp K mg psp vs H Q E → codeAny (model P w) A (.call (.ref f) args) (CR (L2.CX P w) outer P w H s Q E) s
theorem FnG.up {P : Program} {w : World} {K : PySem.W.Frag} {mg : Str → Option Value} {base : Heap} {j k : Nat} {f : Addr} {fd : FuncData} {ps : List Str} {psp : PSp} (F : FnG P w K mg base j f fd ps psp) (h : j ≤ k) : FnG P w K mg base k f fd ps psp :=
  ⟨F.len, F.mono, fun A o s H ar us vs Q E hr => F.run A o s H ar us vs Q E (hr.mono h)⟩

/-- what a body may leave: less in the store, a list told whole -/
structure Wkn (p : Pv) (S : Sto) (p' : Pv) (S' : Sto) : Prop where
  sub : Sub S' S
  rep : ∀ (K : PySem.W.Frag) (H : Hp) (v : V), RepS K H S → RepV K H S p v → RepV K H S' p' v
theorem Wkn.refl (p : Pv) (S : Sto) : Wkn p S p S := ⟨Sub.refl S, fun _ _ _ _ h => h⟩
theorem Wkn.less {p : Pv} {S S' : Sto} (h : Sub S' S) : Wkn p S p S' := ⟨h, fun _ _ _ _ r => r.sub h⟩
theorem Wkn.frz {a : Addr} {S : Sto} {xs : List Pv} (h : S a = some (.lst xs)) : Wkn (.ref a) S (.lst xs) (del S a) := ⟨Sub.del, fun K H v rs r => by
  obtain ⟨vs, e, rv⟩ := rs a _ h
  have e1 : v = .ref a := r
  exact ⟨a, vs, e1, e, by simp, rv.sub Sub.del⟩⟩
theorem Wkn.trans {p p1 p2 : Pv} {S S1 S2 : Sto} (a : Wkn p S p1 S1) (b : Wkn p1 S1 p2 S2) : Wkn p S p2 S2 := ⟨b.sub.trans a.sub, fun K H v rs r => b.rep K H v (rs.sub a.sub) (a.rep K H v rs r)⟩
def Out (Q : QV) (p : Pv) (S : Sto) : Prop := ∃ p' S', Wkn p S p' S' ∧ Q p' S'
theorem Out.id {Q : QV} {p : Pv} {S : Sto} (h : Q p S) : Out Q p S := ⟨p, S, Wkn.refl p S, h⟩
theorem Out.less {Q : QV} {p : Pv} {S S' : Sto} (h : Sub S' S) (q : Q p S') : Out Q p S := ⟨p, S', Wkn.less h, q⟩
theorem Out.frz {Q : QV} {a : Addr} {S S' : Sto} {xs : List Pv} (h : S a = some (.lst xs)) (h2 : Sub S' (del S a)) (q : Q (.lst xs) S') : Out Q (.ref a) S := ⟨.lst xs, S', (Wkn.frz h).trans (Wkn.less h2), q⟩
def OutE (E : QE) (C : Str) (S : Sto) : Prop := ∃ S', Sub S' S ∧ E C S'
/-- the slots at the entry -/
def st0 (n : Nat) (ps : List Pv) : Env' := ps.map some ++ List.replicate (n - ps.length) none
theorem rep_st0 {K : PySem.W.Frag} {H : Hp} {S : Sto} {N : List Str} {ps : List Pv} {vs : List V} (r : RepVs K H S ps vs) : RepE K H S (L2.start N vs) (st0 N.length ps) := by
  unfold L2.start st0
  refine ⟨by simp [r.len], fun i p e => ?_⟩
  by_cases hi : i < ps.length
  · rw [List.getElem?_append_left (by simpa using hi), List.getElem?_map, Option.map_eq_some_iff] at e
    obtain ⟨q, e1, e2⟩ := e
    cases e2
    obtain ⟨v, h1, h2⟩ := r.get e1
    exact ⟨v, by rw [List.getElem?_append_left (by simpa [r.len] using hi), List.getElem?_map, h1]; rfl, h2⟩
  · rw [List.getElem?_append_right (by simpa using hi), List.getElem?_replicate] at e
    split at e <;> cases e
/-- a def as it stands behind the top; dV: its defaults -/
structure FunV (K : PySem.W.Frag) (x qual : Str) (st : Stmt) (dV : Value) (f : Addr) (fd : FuncData) : Prop where
  ex : ∃ (oc : Value) (od : Option Addr) (kV doc pm : Value) (an : Option Addr) (cdv ct : Value) (osl : Array (Option Value)),
    fd = PySem.W.fnOf x qual (defArgs st) (defBody st) (defScope st) dV kV doc pm an cdv ct ∧ K.lookup f = some ⟨oc, od, .func fd, osl⟩ ∧ PySem.W.codeIn K cdv qual = true
  kp : PySem.W.keepIn K (.ref f) = true
theorem funV_mk {K : PySem.W.Frag} {x qual : Str} {st : Stmt} {f : Addr} {oc : Value} {od : Option Addr} {dV kV doc pm : Value} {an : Option Addr} {cdv ct : Value} {osl : Array (Option Value)}
    (l : K.lookup f = some ⟨oc, od, .func (PySem.W.fnOf x qual (defArgs st) (defBody st) (defScope st) dV kV doc pm an cdv ct), osl⟩) (c : PySem.W.codeIn K cdv qual = true) (k : PySem.W.keepIn K (.ref f) = true) :
    FunV K x qual st dV f (PySem.W.fnOf x qual (defArgs st) (defBody st) (defScope st) dV kV doc pm an cdv ct) := ⟨⟨oc, od, kV, doc, pm, an, cdv, ct, osl, rfl, l, c⟩, k⟩
theorem FunV.binds {K : PySem.W.Frag} {x qual : Str} {st : Stmt} {dV : Value} {f : Addr} {fd : FuncData} {ps : List Str} (F : FunV K x qual st dV f fd)
    (h : ∀ (kV doc pm : Value) (an : Option Addr) (cdv ct : Value) (us : List Value), us.length = ps.length → bindArgs (PySem.W.fnOf x qual (defArgs st) (defBody st) (defScope st) dV kV doc pm an cdv ct) ⟨us, []⟩ = pure (ps.zip us)) : Binds K fd ps [] := by
  obtain ⟨oc, od, kV, doc, pm, an, cdv, ct, osl, rfl, lk, hcd⟩ := F.ex
  exact .all (h kV doc pm an cdv ct)
/-- n values are written, the defaults behind the first j fill up -/
theorem FunV.bindsD {K : PySem.W.Frag} {x qual : Str} {st : Stmt} {T : Addr} {f : Addr} {fd : FuncData} {ps : List Str} {o : Obj} {its : List Value} {m : Nat} (F : FunV K x qual st (.ref T) f fd) (lT : K.lookup T = some o) (oT : o.data = .seq its.toArray m) (n j : Nat) (hn : n + (its.length - j) = ps.length)
    (h : ∀ (kV doc pm : Value) (an : Option Addr) (cdv ct : Value) (us : List Value), us.length = n →
      ∃ k, bindArgs (PySem.W.fnOf x qual (defArgs st) (defBody st) (defScope st) (.ref T) kV doc pm an cdv ct) ⟨us, []⟩ = seqItems? (.ref T) >>= k ∧ k (some its.toArray) = pure (ps.zip (us ++ its.drop j))) : Binds K fd ps (its.drop j) := by
  obtain ⟨oc, od, kV, doc, pm, an, cdv, ct, osl, rfl, lk, hcd⟩ := F.ex
  intro s us X hlen
  have l2 : us.length = n := by
    rw [List.length_append, List.length_drop] at hlen
    omega
  obtain ⟨k, e1, e2⟩ := h kV doc pm an cdv ct us l2
  refine BindsTo.of_looks fun M => ?_
  rw [e1]
  exact looks_items X lT oT (.of_pure e2)
section
variable {P : Program} {w : World} {K : PySem.W.Frag} {mg : Str → Option Value} {base : Heap}
/-- a promise that nobody can ask for -/
theorem fng_never {f : Addr} {fd : FuncData} {ps : List Str} {k : Nat} : FnG P w K mg base k f fd ps (fun _ _ _ _ => False) :=
  ⟨fun _ _ _ _ h => h.elim, fun _ _ _ _ _ _ _ _ h => h, fun A outer s H args us vs Q E hr hgu e0 hb rv hsp => by
    obtain ⟨_, _, _, _, h⟩ := hsp
    exact h.elim⟩
/-- the body's context at an entry -/
structure Ent (k : Nat) (X : Cx) (P : Program) (w : World) (K : PySem.W.Frag) (mg : Str → Option Value) (base : Heap) (N : List Str) (scope : Scope) (S0 : Sto) (H0 : Hp) (Ep : QE) : Prop where
  prog : X.prog = P
  ww : X.w = w
  frag : X.K = K
  glob : X.mg = mg
  bs : X.base = base
  names : X.N = N
  room : Room k X.A
  gu : X.A.guards = some []
  pas : PassesOwn (model X.prog X.w) X.A X.env X.xe
  tak : ∃ E : XK, Takes X (fun cls d _ H => E cls d H) ∧ ∀ c C S' H', Ep c S' → mg c = some (.ref C) → RepS K H' S' → Ext S0 H0 S' H' → E (.ref C) none H'
theorem okG {x qual : Str} {st : Stmt} {f : Addr} {fd : FuncData} {N ps : List Str} {k : Nat} {psp : PSp} {dV : Value} (F : FunV K x qual st dV f fd) (Sc : FnScope N ps (defScope st)) (len : ∀ xs S Q E, psp xs S Q E → xs.length = ps.length)
    (mono : ∀ xs S (Q Q' : QV) (E E' : QE), (∀ p S', Q p S' → Q' p S') → (∀ C S', E C S' → E' C S') → psp xs S Q E → psp xs S Q' E')
    (body : ∀ (cdv : Value) (A : Around) (outer : List Env) (s : Shared) (S0 : Sto) (H0 : Hp) (E : XK) (Q : QV) (Ep : QE) (xs : List Pv),
      let X := cxOf (L2.CX P w) P w K mg base N qual (defScope st) f cdv A outer s H0 E
      Room k X.A → X.A.guards = some [] → (∀ c C S' H', OutE Ep c S' → mg c = some (.ref C) → RepS K H' S' → Ext S0 H0 S' H' → E (.ref C) none H') → psp xs S0 Q Ep →
      ∃ g, PZs X S0 H0 (defBody st) g ∧ g { nx := fun _ S => Out Q .non S, rt := Out Q } (st0 N.length xs) S0) : FnG P w K mg base (k + 1) f fd ps psp := by
  obtain ⟨oc, od, kV, doc, pm, an, cdv, ct, osl, rfl, lk, hcd⟩ := F.ex
  refine ⟨len, mono, fun A outer s H args us vs Q E hr hgu e0 hb rv hsp => ?_⟩
  obtain ⟨xs, S, rvs, rs, hq⟩ := hsp
  have hl : vs.length = ps.length := by rw [rvs.len]; exact len _ _ _ _ hq
  have kin : K.In s.heap := e0.mod.kin.keeps fun c o e => (e0.bs c o e).1
  have nl : s.heap.NoLimit := e0.mod.nolimit.keeps fun c o e => (e0.bs c o e).1
  have par : ∀ y ∈ ps.zip us, (defScope st).names.lookup y.1 = some .local ∨ ((defScope st).names.lookup y.1 = some .cell ∧ ((cellsFrom (s.heap.objs.size + 1) (defScope st).names []).lookup y.1).isSome = true) := fun ⟨n, v⟩ hy =>
    (Sc.par n (List.of_mem_zip hy).1).elim .inl fun q => .inr ⟨q, PySem.W.cellsFrom_some _ _ _ (.inl q)⟩
  refine codeAny_call_function hr.depth (kin _ _ lk) rfl Sc.co Sc.gen rfl (PySem.W.codeRec_of kin hcd) (hb _ _ _ _ (wpAny_newFunctionEnv_cells Sc.kind par fun env he s1 inc => ?_))
  subst he
  refine ⟨nl.keeps inc.toInCall.keep, codeAny_func ?_⟩
  obtain ⟨g, hg, hw⟩ := body cdv A outer s S H E (fun p S' => ∀ v H', RepV K H' S' p v → RepS K H' S' → Ext S H S' H' → Q v H') (fun c S' => ∀ C H', mg c = some (.ref C) → RepS K H' S' → Ext S H S' H' → E (.ref C) none H') xs (hr.deeper _) hgu
    (fun c C S' H' ⟨S2, sb, q⟩ hm r2 e2 => q C H' hm (r2.sub sb) (e2.sub sb)) hq
  have J0 : Inv (cxOf (L2.CX P w) P w K mg base N qual (defScope st) f cdv A outer s H E) [] (L2.start N vs) H s1 := inv_start Sc hr.hd e0 hl rv inc
  have hlift : liftS K S H g { nx := fun _ H' => Q .non H', rt := Q } (L2.start N vs) H := by
    refine ⟨st0 N.length xs, S, rep_st0 rvs, rs, Ext.refl S H, hg.mono { nx := fun _ S => Out _ .non S, rt := Out _ } _ _ _ ⟨?_, ?_, ?_, ?_⟩ hw⟩
    · rintro ρ S1 ⟨p', S2, wk, q⟩ σ' H' a1 a2 a3
      exact q .non H' (wk.rep K H' .non a2 rfl) (a2.sub wk.sub) (a3.sub wk.sub)
    · rintro p S1 ⟨p', S2, wk, q⟩ v H' a1 a2 a3
      exact q v H' (wk.rep K H' v a2 a1) (a2.sub wk.sub) (a3.sub wk.sub)
    · intro _ _ h; exact h.elim
    · intro _ _ h; exact h.elim
  refine wpAny_mono (hg.pss.run [] s1 (L2.start N vs) H _ J0 hlift) (fun fl s2 hs => ?_) fun e s2 hs => hs
  have done : ∀ {σ2 : L2.St} {H2 : Hp} {v : V} {u : Value}, Inv (cxOf (L2.CX P w) P w K mg base N qual (defScope st) f cdv A outer s H E) [] σ2 H2 s2 → RelV v u → Q v H2 → CE outer P w H s Q u s2 := fun {_ H2 v _} J r q => ⟨v, H2, J.os, J.bare, J.base, J.hok, r, q⟩
  cases fl with
  | ret u => obtain ⟨v, _, _, J, r, q⟩ := hs; exact done J r q
  | next => obtain ⟨_, _, J, q⟩ := hs; exact done (v := V.non) (u := Value.none) J rfl q
  | brk => obtain ⟨_, _, _, q⟩ := hs; exact q.elim
  | cont => obtain ⟨_, _, _, q⟩ := hs; exact q.elim
end

/-! ### calls -/
section
variable {X : Cx} {S0 : Sto} {H0 : Hp} {a b : Expr} {fa fb : PF} {pos p : Pos} {e : Expr} {es : List Expr} {fs : PFs} {k : Nat} {f : Addr} {fd : FuncData} {ps : List Str} {psp : PSp} {x : Str}
theorem runG {pins : List (Addr × Obj)} {σ : L2.St} {H : Hp} {s : Shared} {Q : VK} {us ds : List Value} {vs dvs : List V} {E : XK} (F : FnG X.prog X.w X.K X.mg X.base k f fd ps psp) (hr : Room k X.A) (hgu : X.A.guards = some []) (hb : Binds X.K fd ps ds) (hd : Vals dvs ds) (hx : Passes (L2.CX X.prog X.w) X E) (I : Inv X pins σ H s) (r : Vals vs us)
    (h : liftSp X.K X.mg psp (vs ++ dvs) H Q E) : wpAny (model X.prog X.w) X.A (call (.ref f) us) (EP X pins σ Q) X.xe s := by
  have r2 : Vals (vs ++ dvs) (us ++ ds) := r.append hd
  have hl : (us ++ ds).length = ps.length := by
    obtain ⟨xs, S, rv, _, q⟩ := h
    rw [← r2.length, rv.len]
    exact F.len _ _ _ _ q
  refine wpAny_call (codeAny_mono (F.run X.A X.stack s H ⟨us, []⟩ _ _ Q E hr hgu I.env0 (hb s us I.kIn hl) r2 h) fun res s2 hq => ?_)
  cases res with
  | error er => exact hx pins σ H s er s2 I hq
  | ok fl =>
    cases fl with
    | ret u => exact I.after hq
    | _ => exact False.elim hq
def fCall (psp : PSp) (dps : List Pv) (Ep : QE) (fs : PFs) : PF := fun ρ S Q => fs ρ S fun xs S1 => psp (xs ++ dps) S1 Q Ep
abbrev noE : QE := fun _ _ => False
theorem pv_callG {dps : List Pv} {dvs : List V} {ds : List Value} {E : XK} {Ep : QE} (F : FnG X.prog X.w X.K X.mg X.base k f fd ps psp) (hr : Room k X.A) (hgu : X.A.guards = some []) (hm : X.mg x = some (.ref f)) (hk : PySem.W.keepIn X.K (.ref f) = true) (hb : Binds X.K fd ps ds) (hd : Vals dvs ds) (hdr : ∀ H S, RepVs X.K H S dps dvs)
    (hx : Passes (L2.CX X.prog X.w) X E) (hE : ∀ c C S' H', Ep c S' → X.mg c = some (.ref C) → RepS X.K H' S' → Ext S0 H0 S' H' → E (.ref C) none H') (ha : PVs X S0 H0 (e :: es) fs) (hg : Gl X x := by rfl) (hdb : (x == ("__debug__" : Str)) = false := by decide)
    (he : starEach (e :: es) X.env = (false, eval e X.env) :: starEach es X.env := by rfl) (hpl : (backTo pos (starEach es X.env)).any (·.1) = false := by rfl) : PV X S0 H0 (.Call (.Name x p) (e :: es) [] pos) (fCall psp dps Ep fs) := by
  refine ⟨fun ρ S Q Q' i q => ha.mono _ _ _ _ (fun xs S1 q => F.mono _ _ _ _ _ _ i (fun _ _ h => h) q) q, ⟨fun pins s σ H Q I h => ?_⟩⟩
  obtain ⟨ρ, S, re, rs, ex, q⟩ := h
  refine wpAny_Call_Name_kw (ld_glob I hg hm ?_ hdb)
  refine PySem.W.callWith_K (h₀ := X.base) I.ok.mod.kin hk (thn (ha.pa.run pos pins s σ H (fun vs H1 => liftSp X.K X.mg psp (vs ++ dvs) H1 Q E) I ?_) fun us s1 ⟨vs, H1, I1, r1, q1⟩ => ⟨I1.kIn, ?_⟩) he hpl
  · refine ⟨ρ, S, re, rs, ex, ha.mono _ _ _ _ (fun xs S1 q vs H1 rv rs1 ex1 => ?_) q⟩
    exact ⟨xs ++ dps, S1, rv.app (hdr H1 S1), rs1, F.mono _ _ _ _ _ _ (fun p S' q v H' a1 a2 a3 => q v H' a1 a2 (ex1.trans a3)) (fun c S' h C H' hm a1 a2 => hE c C S' H' h hm a1 ((ex.trans ex1).trans a2)) q⟩
  · exact runG F hr hgu hb hd hx I1 r1 q1
/-- .. of a def that raises nothing here -/
theorem pv_call {dps : List Pv} {dvs : List V} {ds : List Value} (F : FnG X.prog X.w X.K X.mg X.base k f fd ps psp) (hr : Room k X.A) (hgu : X.A.guards = some []) (hm : X.mg x = some (.ref f)) (hk : PySem.W.keepIn X.K (.ref f) = true) (hb : Binds X.K fd ps ds) (hd : Vals dvs ds) (hdr : ∀ H S, RepVs X.K H S dps dvs)
    (ha : PVs X S0 H0 (e :: es) fs) (hg : Gl X x := by rfl) (hdb : (x == ("__debug__" : Str)) = false := by decide)
    (he : starEach (e :: es) X.env = (false, eval e X.env) :: starEach es X.env := by rfl) (hpl : (backTo pos (starEach es X.env)).any (·.1) = false := by rfl) : PV X S0 H0 (.Call (.Name x p) (e :: es) [] pos) (fCall psp dps noE fs) :=
  pv_callG F hr hgu hm hk hb hd hdr passL (fun _ _ _ _ h _ => h.elim) ha hg hdb he hpl

/-! ### raise -/
def gRaise (c : Str) (Ep : QE) : PFS := fun _ _ S => Ep c S
theorem pz_raise {B newId initId : String} {bmB : List Value} {C : Addr} {m : Str} {j : Nat} {p2 pos2 : Pos} {E : XK} {Ep : QE} (hc : X.calm = true) (tk : Takes X (fun cls d _ H => E cls d H)) (hE : ∀ c C S' H', Ep c S' → X.mg c = some (.ref C) → RepS X.K H' S' → Ext S0 H0 S' H' → E (.ref C) none H')
    (F : ExcBaseFacts B newId initId bmB) (q : PySem.W.excIn X.K C bmB newId = true) (gC : X.mg x = some (.ref C)) (kC : PySem.W.keepIn X.K (.ref C) = true) (r : Raises X (.ref C)) (hg : Gl X x := by rfl)
    (hdb : (x == ("__debug__" : Str)) = false := by decide) : PZ X S0 H0 (.Raise (some (.Call (.Name x p) [.Constant (.str m) j p2] [] pos)) none pos2) (gRaise x Ep) :=
  ⟨fun _ _ _ _ _ q => q, PS.imp (ps_raise hc tk (pmk_own F q gC kC r hg hdb)) fun _ _ H ⟨_, S, _, rs, ex, q⟩ => hE x C S H q gC rs ex⟩
end

/-! ### the end -/
theorem noCX {P : Program} {w : World} {l : List Env} {H : Hp} {s : Shared} {e : Value} {s' : Shared} (h : L2.CX P w l H s (fun _ _ _ => False) e s') : False := by
  obtain ⟨_, _, _, _, _, _, _, _, _, _, _, _, z⟩ := h
  exact z.elim
theorem lawG {P : Program} {w : World} {K : PySem.W.Frag} {mg mb : Str → Option Value} {k : Nat} {fa a : Addr} {fd : FuncData} {x : Str} {psp : PSp} {s1 : Shared} {us : List Value} {ns : List Int}
    (kin : K.In s1.heap) (hns : s1.heap.Ns mainGlobals mg) (hbl : s1.heap.Ns builtinsNs mb) (hbb : ∀ x : Str, x ≠ "__name__" → mb x = bootBuiltins x) (hlim : s1.heap.NoLimit) (hge : s1.gens = #[])
    (ha : s1.heap.get? a = some { cls := .type "list", data := .seq us.toArray }) (hi : IntsAre us ns) (hl : ns.length ≤ sizeLine) (hr : Room k callerA)
    (F : ∀ base : Heap, K.In base → base.Ns mainGlobals mg → FnG P w K mg base k fa fd [x] psp) (hbind : ∀ (s : Shared) (u : Value), BindsTo s fd ⟨[u], []⟩ [(x, u)])
    (hsp : ∀ Q : QV, (∀ S, Q (.bl true) S) → psp [.scr (ns.map .int)] (fun _ => none) Q noE) :
    codeAny (model P w) callerA (.call (.ref fa) ⟨[.ref a], []⟩) (fun r s' => r = .ok (.ret (.bool true)) ∧ OldK s1.heap s'.heap ∧ s'.os = s1.os ∧ AllBare s'.gens) s1 := by
  have rvl := vals_ints hi
  have repI : ∀ (H : Hp), RepVs K H (fun _ => none) (ns.map Pv.int) (ns.map V.int) := fun H => by
    clear hsp rvl hi hl
    induction ns with
    | nil => exact rfl
    | cons n r ih => exact ⟨_, _, rfl, rfl, ih⟩
  have main : ∀ H : Hp, Only H → ((∃ o, H a = some (.frz o (.lst (ns.map V.int)))) ∨ SqL K (fun _ => none) a (ns.map V.int)) → HOk P w H s1.heap → (∀ c, H c ≠ none → c = a) → (H a ≠ none → K.lookup a = none) →
      codeAny (model P w) callerA (.call (.ref fa) ⟨[.ref a], []⟩) (fun r s' => r = .ok (.ret (.bool true)) ∧ OldK s1.heap s'.heap ∧ s'.os = s1.os ∧ AllBare s'.gens) s1 := by
    intro H hO hS hok hA hK
    have dictFree : ∀ {c : Addr} {o : Obj} {es : Array DictEntry} {ep : Nat}, s1.heap.get? c = some o → o.data = .dict es ep → H c = none := fun {c o es ep} e d => by
      cases q : H c with
      | none => rfl
      | some u =>
        obtain rfl : c = a := hA c (by rw [q]; simp)
        rw [ha] at e; cases e; cases d
    have nsH : ∀ {c : Addr} {m : Str → Option Value}, s1.heap.Ns c m → (hidT s1.heap H).Ns c m := fun {c m} ⟨o, es, ep, e, d, r⟩ => ⟨o, es, ep, hidT_get e (dictFree e d), d, r⟩
    have kb : K.In (hidT s1.heap H) := fun c o e => hidT_get (kin c o e) (by
      cases q : H c with
      | none => rfl
      | some u =>
        obtain rfl : c = a := hA c (by rw [q]; simp)
        rw [hK (by rw [q]; simp)] at e; cases e)
    have md : Mod K mg (hidT s1.heap H) := ⟨kb, nsH hns, ⟨mb, nsH hbl, hbb⟩, hlim.elim fun mc h => ⟨mc, nsH h.1, h.2⟩⟩
    have en : Env0 P w K mg (hidT s1.heap H) callerA [] s1 H := { frames := rfl, mod := md, bs := fun c o e => of_hidT e, bsz := Nat.le_of_eq (hidT_size _ _), funs := trivial, frf := fun c hc => absurd (show c ∈ ([] : List Addr) from hc) (by simp), hok := hok, bare := .of_eq hge }
    have hspL : liftSp K mg psp [.ref a] H (fun v _ => v = .bl true) fun _ _ _ => False := by
      have FF := F _ kb (nsH hns)
      refine ⟨[.scr (ns.map .int)], fun _ => none, ⟨.ref a, [], rfl, ⟨a, ns.map V.int, rfl, hS, repI H⟩, rfl⟩, (fun c m e => nomatch e), ?_⟩
      exact FF.mono _ _ (fun p _ => p = .bl true) _ noE _ (fun p S' e v H' r _ _ => by rw [e] at r; exact r) (fun _ _ h => h.elim) (hsp _ fun _ => rfl)
    refine codeAny_mono ((F _ kb (nsH hns)).run callerA [] s1 H ⟨[.ref a], []⟩ [.ref a] [.ref a] _ _ hr rfl en (hbind s1 (.ref a)) (.cons rfl .nil) hspL) fun res s2 h => ?_
    cases res with
    | error er => exact (noCX h).elim
    | ok fl =>
      cases fl with
      | ret u =>
        obtain ⟨v, H2, os, bare, un, hok2, r2, q⟩ := h
        have q' : v = .bl true := q
        subst q'
        obtain rfl : u = Value.bool true := r2
        refine ⟨rfl, OldK.of_keep fun c o e => ?_, os, bare⟩
        rcases hO c with z | ⟨ob, ys, z⟩
        · exact un.keep c o e z (fun z => absurd (show c ∈ ([] : List Addr) from z) (by simp)) (by simp)
        · obtain ⟨e1, _⟩ := hok c _ z
          obtain ⟨e2, _⟩ := hok2 c _ (un.frzs c ob _ z)
          rw [e] at e1; cases e1
          exact e2
      | _ => exact False.elim h
  cases hk : K.lookup a with
  | some o =>
    have e := kin a o hk
    rw [ha] at e
    cases e
    exact main (fun _ => none) (fun _ => .inl rfl) (.inr (.inr ⟨_, us.toArray, _, hk, rfl, rfl, rfl, by rw [List.size_toArray, hi.length]; exact hl, by simpa using rvl⟩)) (fun c u z => nomatch z) (fun c z => absurd rfl z) fun z => absurd rfl z
  | none =>
    refine main (fun c => if c = a then some (.frz { cls := .type "list", data := .seq us.toArray } (.lst (ns.map V.int))) else none) (fun c => ?_) (.inl ⟨_, if_pos rfl⟩) (fun c u z => ?_) (fun c z => ?_) fun _ => hk
    · by_cases hc : c = a
      · exact .inr ⟨_, _, if_pos hc⟩
      · exact .inl (if_neg hc)
    · by_cases hc : c = a
      · subst hc
        have z' := (if_pos rfl).symm.trans z
        cases z'
        exact ⟨ha, by rw [List.length_map]; exact hl, us, _, rvl, ha⟩
      · have z' := (if_neg hc).symm.trans z
        cases z'
    · exact Decidable.byContradiction fun hc => z (if_neg hc)
theorem walkG {l : PySem.W.OpenLaw} {n k : Nat} {q : Program} {loose : List Str} {XP : (Str → Option Value) → Heap → Prop} {YP : World → Heap → Prop} {d : DefRec} {K : Params → PySem.W.Frag} {psp : World → PSp} {x : Str}
    (hn : l.most = some n) (hn2 : n ≤ sizeLine) (hdf : d.params.defaults = []) (hr : Room k callerA) (hY : ∀ (w : World) (h : Heap), YP w h → (K w.params).In h)
    (F : ∀ (w : World) (mg : Str → Option Value) (fa : Addr) (h : Heap), (K w.params).In h → h.Ns mainGlobals mg → mg d.name = some (.ref fa) →
      ∃ fd : FuncData, (∀ (s : Shared) (u : Value), BindsTo s fd ⟨[u], []⟩ [(x, u)]) ∧ ∀ base : Heap, (K w.params).In base → base.Ns mainGlobals mg → FnG l.prog w (K w.params) mg base k fa fd [x] (psp w))
    (hsp : ∀ (w : World) (ns : List Int) (Q : QV), ns.length ≤ n → (∀ S, Q (.bl true) S) → psp w [.scr (ns.map .int)] (fun _ => none) Q noE) : PySem.W.WalkO q loose XP YP l.row.toRowW d [] (fun f vs => PySem.call f vs) := by
  refine Att.attach_call hn hdf fun w s0 s1 mg mb fa o pm cd doc a vs ns G Y ho hd hcd hmg hobj hints hlen hge => ?_
  obtain ⟨fd, hb, hF⟩ := F w mg fa _ (hY w _ Y) G.T.g hmg
  exact lawG (hY w _ Y) G.T.g G.T.b G.T.builtins G.T.nolimit hge hobj hints (Nat.le_trans hlen hn2) hr hF hb fun Q hQ => hsp w ns Q hlen hQ
end PL

/-! The pure layer, part 6: short words for the printed derivations. -/
namespace PL
open PySem PySem.Spec PyProof.Rows L2
theorem hu64 {k : Nat} {A : Around} (h : Room k A) : A.units + 64 < cLine := h.units
theorem hu65 {k : Nat} {A : Around} (h : Room k A) : A.units + 65 < cLine := by have := h.un; omega
/-- a def of the module that is called by its name -/
structure Cal (P : Program) (w : World) (K : PySem.W.Frag) (mg : Str → Option Value) (base : Heap) (k : Nat) (x : Str) (dps : List Pv) (psp : PSp) : Prop where
  ex : ∃ (f : Addr) (fd : FuncData) (ps : List Str) (ds : List Value) (dvs : List V), mg x = some (.ref f) ∧ PySem.W.keepIn K (.ref f) = true ∧ Binds K fd ps ds ∧ Vals dvs ds ∧ (∀ H S, RepVs K H S dps dvs) ∧ FnG P w K mg base k f fd ps psp
section
variable {X : Cx} {S0 : Sto} {H0 : Hp} {pos p : Pos} {e : Expr} {es : List Expr} {fs : PFs} {k : Nat} {psp : PSp} {x : Str} {dps : List Pv}
theorem pv_cal (c : Cal X.prog X.w X.K X.mg X.base k x dps psp) (hr : Room k X.A) (hgu : X.A.guards = some []) (ha : PVs X S0 H0 (e :: es) fs) (hg : Gl X x := by rfl) (hdb : (x == ("__debug__" : Str)) = false := by decide)
    (he : starEach (e :: es) X.env = (false, eval e X.env) :: starEach es X.env := by rfl) (hpl : (backTo pos (starEach es X.env)).any (·.1) = false := by rfl) : PV X S0 H0 (.Call (.Name x p) (e :: es) [] pos) (fCall psp dps noE fs) := by
  obtain ⟨f, fd, ps, ds, dvs, h1, h2, h3, h4, h5, F⟩ := c.ex
  exact pv_call F hr hgu h1 h2 h3 h4 h5 ha hg hdb he hpl
theorem pv_calE {E : XK} {Ep : QE} (c : Cal X.prog X.w X.K X.mg X.base k x dps psp) (hr : Room k X.A) (hgu : X.A.guards = some []) (tk : Takes X (fun cls d _ H => E cls d H)) (hE : ∀ c C S' H', Ep c S' → X.mg c = some (.ref C) → RepS X.K H' S' → Ext S0 H0 S' H' → E (.ref C) none H') (ha : PVs X S0 H0 (e :: es) fs) (hg : Gl X x := by rfl) (hdb : (x == ("__debug__" : Str)) = false := by decide)
    (he : starEach (e :: es) X.env = (false, eval e X.env) :: starEach es X.env := by rfl) (hpl : (backTo pos (starEach es X.env)).any (·.1) = false := by rfl) : PV X S0 H0 (.Call (.Name x p) (e :: es) [] pos) (fCall psp dps Ep fs) := by
  obtain ⟨f, fd, ps, ds, dvs, h1, h2, h3, h4, h5, F⟩ := c.ex
  exact pv_callG F hr hgu h1 h2 h3 h4 h5 (passes_call tk fun _ _ _ _ h => h) hE ha hg hdb he hpl
def gNever : PFS := fun _ _ _ => False
theorem pz_never {st : Stmt} : PZ X S0 H0 st gNever := ⟨fun _ _ _ _ _ h => h, PS.imp ps_never fun _ _ _ ⟨_, _, _, _, _, h⟩ => h⟩
theorem pv_dict0 : PV X S0 H0 (.Dict [] [] pos) (fC (.dct [] [])) := by
  refine ⟨fun _ _ _ _ h q => h _ _ q, PE.imp pe_dnewK fun σ H Q ⟨ρ, S, re, rs, ex, q⟩ d nd => ?_⟩
  exact q _ _ ⟨d, [], rfl, .inl upd_same, rs.fr nd, rfl, rfl⟩ (rs.newT nd) (Ext.newT (K := X.K) nd)
theorem pz_par3 (i j l : Nat) {x y z : Str} {a b c : Expr} {px py pz pt pt2 : Pos} {kt k2 : Nat} (hc : X.calm = true) (hN : X.N.Nodup) (hv : PVs X S0 H0 [a, b, c] fs) (hi : X.N[i]? = some x := by rfl) (hj : X.N[j]? = some y := by rfl) (hl : X.N[l]? = some z := by rfl) (hij : i ≠ j := by decide) (hil : i ≠ l := by decide) (hjl : j ≠ l := by decide)
    (hx : X.env.scope.names.lookup x = some .local := by rfl) (hy : X.env.scope.names.lookup y = some .local := by rfl) (hz : X.env.scope.names.lookup z = some .local := by rfl)
    (hw : swappedStores [.Tuple [.Name x px, .Name y py, .Name z pz] kt pt] (.Tuple [a, b, c] k2 pt2) X.env = pure (some [x, y, z]) := by rfl) (hs : swapsWithSole [.Tuple [.Name x px, .Name y py, .Name z pz] kt pt] (.Tuple [a, b, c] k2 pt2) pos.line X.env = pure false := by rfl) :
    PZ X S0 H0 (.Assign [.Tuple [.Name x px, .Name y py, .Name z pz] kt pt] (.Tuple [a, b, c] k2 pt2) pos) (gPar3 i j l fs) := by
  refine ⟨fun D D' ρ S l q => hv.mono _ _ _ _ (fun ps S1 q => ?_) q, PS.imp (ps_par3 hc hN hi hj hl hij hil hjl hx hy hz hv.pa hw hs) fun D σ H ⟨ρ, S, re, rs, ex, q⟩ => ?_⟩
  · split at q
    · exact l.1 _ _ q
    · exact q
  · refine ⟨ρ, S, re, rs, ex, hv.mono _ _ _ _ (fun ps S1 q vs H1 rv rs1 ex1 => ?_) q⟩
    split at q
    · obtain ⟨v, r, e1, r1, r2⟩ := rv
      obtain ⟨v2, v3, rfl, r3, r4⟩ := r2.two
      exact ⟨v, v2, v3, e1, q _ H1 ((((re.ext rs ex1).set i r1).set j r3).set l r4) rs1 ex1⟩
    · exact q.elim
end
/-! ### names of the module that are data -/
def KReps (K : PySem.W.Frag) (ps : List Pv) (us : List Value) : Prop := ∃ vs, Vals vs us ∧ ∀ H S, RepVs K H S ps vs
theorem KReps.nil {K : PySem.W.Frag} : KReps K [] [] := ⟨[], .nil, fun _ _ => rfl⟩
theorem KReps.cons {K : PySem.W.Frag} {p : Pv} {ps : List Pv} {u : Value} {us : List Value} (h : KRep K p u) (h' : KReps K ps us) : KReps K (p :: ps) (u :: us) := by
  obtain ⟨v, r, q⟩ := h
  obtain ⟨vs, rs, qs⟩ := h'
  exact ⟨v :: vs, .cons r rs, fun H S => ⟨v, vs, rfl, q H S, qs H S⟩⟩
theorem KRep.int {K : PySem.W.Frag} {i : Int} {t} : KRep K (.int i) (.int i t) := ⟨.int i, ⟨t, rfl⟩, fun _ _ => rfl⟩
theorem KRep.str {K : PySem.W.Frag} {i : Str} {t} : KRep K (.str i) (.str i t) := ⟨.str i, ⟨t, rfl⟩, fun _ _ => rfl⟩
theorem KRep.bl {K : PySem.W.Frag} {b : Bool} : KRep K (.bl b) (.bool b) := ⟨.bl b, rfl, fun _ _ => rfl⟩
theorem KRep.tup {K : PySem.W.Frag} {a : Addr} {d : Option Addr} {its : Array Value} {n : Nat} {sl : Array (Option Value)} {ps : List Pv} (h : K.lookup a = some ⟨.type "tuple", d, .seq its n, sl⟩) (h' : KReps K ps its.toList) (l : Nat.ble its.size 1000 = true := by rfl) : KRep K (.tup ps) (.ref a) := by
  obtain ⟨vs, rs, qs⟩ := h'
  exact ⟨.ref a, rfl, fun H S => ⟨a, vs, rfl, .inr ⟨_, its, n, h, rfl, rfl, Nat.le_trans (Nat.le_of_ble_eq_true l) (by decide), rs⟩, qs H S⟩⟩
/-- a def some of whose defaults fill up -/
theorem calD {P : Program} {w : World} {K : PySem.W.Frag} {mg : Str → Option Value} {base : Heap} {k : Nat} {x : Str} {dps : List Pv} {psp : PSp} {f : Addr} {fd : FuncData} {ps : List Str} {ds : List Value} (hm : mg x = some (.ref f)) (hk : PySem.W.keepIn K (.ref f) = true) (hb : Binds K fd ps ds) (hd : KReps K dps ds) (G : FnG P w K mg base k f fd ps psp) : Cal P w K mg base k x dps psp := by
  obtain ⟨vs, rs, qs⟩ := hd
  exact ⟨⟨f, fd, ps, ds, vs, hm, hk, hb, rs, qs, G⟩⟩
/-- what is known of an exception class of the program -/
structure Rz (K : PySem.W.Frag) (mg : Str → Option Value) (x : Str) (C : Addr) : Prop where
  gC : mg x = some (.ref C)
  exc : PySem.W.excIn K C [.type "ValueError", .type "Exception", .type "BaseException", .type "object"] "ValueError.__new__" = true
  kC : PySem.W.keepIn K (.ref C) = true
  bC : PySem.W.subIn K (.ref C) (.type "BaseException") = some true
  tC : PySem.W.typeIn K (.ref C) = some (.type "type")
end PL
namespace PL
open PySem PySem.Spec PyProof.Rows L2
/-! ### calls by keywords alone -/
def prm {α : Type} (is : List Nat) (ws : List α) : List α := is.filterMap fun i => ws[i]?
theorem RepVs.prm {K : PySem.W.Frag} {H : Hp} {S : Sto} {ps : List Pv} {vs : List V} (r : RepVs K H S ps vs) : ∀ is : List Nat, RepVs K H S (PL.prm is ps) (PL.prm is vs)
  | [] => rfl
  | i :: is => by
    have ih := RepVs.prm r is
    unfold PL.prm at *
    cases h : ps[i]? with
    | none =>
      have h' : vs[i]? = none := by
        rw [List.getElem?_eq_none_iff] at h ⊢
        rw [r.len]; exact h
      rw [List.filterMap_cons_none h, List.filterMap_cons_none h']
      exact ih
    | some p =>
      obtain ⟨v, h', rv⟩ := r.get h
      rw [List.filterMap_cons_some h, List.filterMap_cons_some h']
      exact ⟨v, _, rfl, rv, ih⟩
theorem Vals.prm {vs : List V} {us : List Value} (r : Vals vs us) : ∀ is : List Nat, Vals (PL.prm is vs) (PL.prm is us)
  | [] => .nil
  | i :: is => by
    have ih := Vals.prm r is
    have g : ∀ {vs : List V} {us : List Value} (i : Nat), Vals vs us → (vs[i]? = none ∧ us[i]? = none) ∨ ∃ v u, vs[i]? = some v ∧ us[i]? = some u ∧ RelV v u := by
      intro vs us i r
      induction r generalizing i with
      | nil => exact .inl ⟨rfl, rfl⟩
      | cons a b ih =>
        cases i with
        | zero => exact .inr ⟨_, _, rfl, rfl, a⟩
        | succ i => simpa using ih i
    unfold PL.prm at *
    rcases g i r with ⟨h, h'⟩ | ⟨v, u, h, h', rv⟩
    · rw [List.filterMap_cons_none h, List.filterMap_cons_none h']; exact ih
    · rw [List.filterMap_cons_some h, List.filterMap_cons_some h']; exact .cons rv ih
structure PKs (X : Cx) (S0 : Sto) (H0 : Hp) (ks : List Keyword) (f : PFs) : Prop where
  mono : ∀ ρ S Q Q', (∀ p S', Q p S' → Q' p S') → f ρ S Q → f ρ S Q'
  pk : PK X ks (liftA X.K S0 H0 f)
theorem PK.imp {X : Cx} {e : List Keyword} {t t' : TA} (h : PK X e t) (i : ∀ σ H Q, t' σ H Q → t σ H Q) : PK X e t' := ⟨fun pos pins s σ H Q I q => h.run pos pins s σ H Q I (i σ H Q q)⟩
section
variable {X : Cx} {S0 : Sto} {H0 : Hp}
theorem pks_nil : PKs X S0 H0 [] fNil := ⟨fun _ _ _ _ h q => h _ _ q, PK.imp pk_nil fun _ H Q ⟨_, S, _, rs, _, q⟩ => q [] H rfl rs (Ext.refl S H)⟩
theorem pks_cons {e : Expr} {ks : List Keyword} {f : PF} {g : PFs} {nm : Option Str} {kp : Pos} (h1 : PV X S0 H0 e f) (h2 : PKs X S0 H0 ks g) : PKs X S0 H0 (⟨nm, e, kp⟩ :: ks) (fCons f g) := by
  refine ⟨fun ρ S Q Q' h q => h1.mono _ _ _ _ (fun p S1 q => h2.mono _ _ _ _ (fun ps S2 q => h _ _ q) q) q, PK.imp (pk_cons h1.pe h2.pk) fun σ H Q ⟨ρ, S, re, rs, ex, q⟩ => ?_⟩
  refine ⟨ρ, S, re, rs, ex, h1.mono _ _ _ _ (fun p S1 q v H1 rv rs1 ex1 => ?_) q⟩
  refine ⟨ρ, S1, re.ext rs ex1, rs1, ex.trans ex1, h2.mono _ _ _ _ (fun ps S2 q vs H2 rvs rs2 ex2 => ?_) q⟩
  exact q (v :: vs) H2 ⟨v, vs, rfl, RepV.ext rs1 ex2 p v rv, rvs⟩ rs2 (ex1.trans ex2)
end
def fCallK (psp : PSp) (n : Nat) (is : List Nat) (Ep : QE) (fs : PFs) : PF := fun ρ S Q => fs ρ S fun xs S1 => xs.length = n ∧ psp (prm is xs) S1 Q Ep
structure CalK (P : Program) (w : World) (K : PySem.W.Frag) (mg : Str → Option Value) (base : Heap) (k : Nat) (x : Str) (ks : List Str) (is : List Nat) (psp : PSp) : Prop where
  ex : ∃ (f : Addr) (fd : FuncData) (ps : List Str), mg x = some (.ref f) ∧ PySem.W.keepIn K (.ref f) = true ∧ (∀ (s : Shared) (ws : List Value), ws.length = ks.length → BindsTo s fd ⟨[], ks.zip ws⟩ (ps.zip (prm is ws))) ∧ FnG P w K mg base k f fd ps psp
theorem kbinds {K : PySem.W.Frag} {x qual : Str} {st : Stmt} {f : Addr} {fd : FuncData} {ps ks : List Str} {is : List Nat} {dV : Value} (F : FunV K x qual st dV f fd)
    (h : ∀ (kV doc pm : Value) (an : Option Addr) (cdv ct : Value) (ws : List Value), ws.length = ks.length → bindArgs (PySem.W.fnOf x qual (defArgs st) (defBody st) (defScope st) dV kV doc pm an cdv ct) ⟨[], ks.zip ws⟩ = pure (ps.zip (prm is ws))) : ∀ (s : Shared) (ws : List Value), ws.length = ks.length → BindsTo s fd ⟨[], ks.zip ws⟩ (ps.zip (prm is ws)) := by
  obtain ⟨oc, od, kV, doc, pm, an, cdv, ct, osl, rfl, lk, hcd⟩ := F.ex
  exact fun s ws hl => .of_eq (h kV doc pm an cdv ct ws hl)
section
variable {X : Cx} {S0 : Sto} {H0 : Hp} {pos p : Pos} {kws : List Keyword} {fs : PFs} {k : Nat} {psp : PSp} {x : Str} {ks : List Str} {is : List Nat}
theorem pv_calK (c : CalK X.prog X.w X.K X.mg X.base k x ks is psp) (hr : Room k X.A) (hgu : X.A.guards = some []) (ha : PKs X S0 H0 kws fs) (hg : Gl X x := by rfl) (hdb : (x == ("__debug__" : Str)) = false := by decide)
    (hall : (backToKw pos (keywordEach kws X.env)).all (·.1.isSome) = true := by rfl) (hks : (backToKw pos (keywordEach kws X.env)).filterMap (·.1) = ks := by rfl)
    (hpl : ((backTo pos (starEach [] X.env)).any (·.1) || (backToKw pos (keywordEach kws X.env)).any (·.1.isNone)) = false := by rfl) : PV X S0 H0 (.Call (.Name x p) [] kws pos) (fCallK psp ks.length is noE fs) := by
  obtain ⟨f, fd, ps, hm, hk, hb, F⟩ := c.ex
  refine ⟨fun ρ S Q Q' i q => ha.mono _ _ _ _ (fun xs S1 q => ⟨q.1, F.mono _ _ _ _ _ _ i (fun _ _ h => h) q.2⟩) q, ⟨fun pins s σ H Q I h => ?_⟩⟩
  obtain ⟨ρ, S, re, rs, ex, q⟩ := h
  refine wpAny_Call_Name_kw (ld_glob I hg hm ?_ hdb)
  refine PySem.W.callWith_KW0 (h₀ := X.base) I.ok.mod.kin hk hall (thn (ha.pk.run pos pins s σ H (fun vs H1 => vs.length = ks.length ∧ liftSp X.K X.mg psp (prm is vs) H1 Q (fun _ _ _ => False)) I ?_) fun us s1 ⟨vs, H1, I1, r1, q1⟩ => ⟨I1.kIn, ?_⟩) hpl
  · refine ⟨ρ, S, re, rs, ex, ha.mono _ _ _ _ (fun xs S1 q vs H1 rv rs1 ex1 => ?_) q⟩
    exact ⟨rv.len.trans q.1, prm is xs, S1, rv.prm is, rs1, F.mono _ _ _ _ _ _ (fun p S' q v H' a1 a2 a3 => q v H' a1 a2 (ex1.trans a3)) (fun _ _ h => h.elim) q.2⟩
  · rw [hks]
    obtain ⟨ql, q1⟩ := q1
    have r2 := Vals.prm r1 is
    refine wpAny_call (codeAny_mono (F.run X.A X.stack s1 H1 ⟨[], ks.zip us⟩ _ _ Q (fun _ _ _ => False) hr hgu I1.env0 (hb s1 us (by rw [← r1.length]; exact ql)) r2 q1) fun res s2 hq => ?_)
    cases res with
    | error er => exact passL pins σ H1 s1 er s2 I1 hq
    | ok fl =>
      cases fl with
      | ret u => exact I1.after hq
      | _ => exact False.elim hq
end
end PL

/-! Methods of texts. -/
namespace PL
open PySem PySem.Spec PyProof.Rows L2
def isS : Pv → Bool
  | .str _ => true
  | _ => false
theorem isS_rep {K : PySem.W.Frag} {H : Hp} {S : Sto} {x : Pv} {v : V} (h : isS x = true) (r : RepV K H S x v) : ∃ a, v = .str a := by
  cases x with
  | str a => exact ⟨a, r⟩
  | _ => cases h
/-- o.m(e), o a text -/
def fMs (o : O2) (fa fb : PF) : PF := fun ρ S Q => fa ρ S fun x S1 => isS x = true ∧ fb ρ S1 fun y S2 => o x y S2 Q
/-- o.m() -/
def fMs0 (o : O1) (fa : PF) : PF := fun ρ S Q => fa ρ S fun x S1 => isS x = true ∧ o x S1 Q
section
variable {X : Cx} {S0 : Sto} {H0 : Hp} {a b : Expr} {fa fb : PF} {pos apos : Pos}
theorem pv_m1 {id : String} {name : Str} {r : V → List V → Hp → VK → Prop} {o : O2} (slot : Slot "str" name id) (ty : typeOf (.builtin id) = pure (.type "method_descriptor")) (rule : MtR X id r) (s : Sim2 X.K (fun v u H Q => r v [u] H Q) o) (ha : PV X S0 H0 a fa) (hb : PV X S0 H0 b fb)
    (hs : starEach [b] X.env = [(false, eval b X.env)] := by rfl) (hbase : attributeBase a name X.env (eval a X.env) = eval a X.env := by rfl) (hline : (apos.endLine == pos.line) = true := by rfl) : PV X S0 H0 (.Call (.Attribute a name apos) [b] [] pos) (fMs o fa fb) := by
  refine ⟨fun ρ S Q Q' i q => ha.mono _ _ _ _ (fun x S1 q => ⟨q.1, hb.mono _ _ _ _ (fun y S2 q => s.mono _ _ _ _ _ i q) q.2⟩) q, PE.imp (pe_m1 slot ty rule ha.pe hb.pe hs hbase hline) fun σ H Q ⟨ρ, S, re, rs, ex, q⟩ => ?_⟩
  refine ⟨ρ, S, re, rs, ex, ha.mono _ _ _ _ (fun p S1 q v H1 rv rs1 ex1 => ⟨isS_rep q.1 rv, ?_⟩) q⟩
  refine ⟨ρ, S1, re.ext rs ex1, rs1, ex.trans ex1, hb.mono _ _ _ _ (fun p' S2 q u H2 ru rs2 ex2 => ?_) q.2⟩
  exact s.run p p' S2 _ v u H2 Q (RepV.ext rs1 ex2 p v rv) ru rs2 q fun p' S' z H' q rz rs' ex' => q z H' rz rs' ((ex1.trans ex2).trans ex')
theorem pv_m0 {id : String} {name : Str} {r : V → List V → Hp → VK → Prop} {o : O1} (slot : Slot "str" name id) (ty : typeOf (.builtin id) = pure (.type "method_descriptor")) (rule : MtR X id r) (s : Sim1 X.K (fun v H Q => r v [] H Q) o) (ha : PV X S0 H0 a fa)
    (hbase : attributeBase a name X.env (eval a X.env) = eval a X.env := by rfl) (hline : (apos.endLine == pos.line) = true := by rfl) : PV X S0 H0 (.Call (.Attribute a name apos) [] [] pos) (fMs0 o fa) := by
  refine ⟨fun ρ S Q Q' i q => ha.mono _ _ _ _ (fun x S1 q => ⟨q.1, s.mono _ _ _ _ i q.2⟩) q, PE.imp (pe_m0 slot ty rule ha.pe hbase hline) fun σ H Q ⟨ρ, S, re, rs, ex, q⟩ => ?_⟩
  refine ⟨ρ, S, re, rs, ex, ha.mono _ _ _ _ (fun p S1 q v H1 rv rs1 ex1 => ⟨isS_rep q.1 rv, ?_⟩) q⟩
  exact s.run p S1 _ v H1 Q rv rs1 q.2 fun p' S' z H' q rz rs' ex' => q z H' rz rs' (ex1.trans ex')
/-! ### join, index, startswith, count, upper -/
def allS : List Pv → Option (List Str)
  | [] => some []
  | .str z :: ps => (allS ps).map (z :: ·)
  | _ => none
theorem allS_rep {K : PySem.W.Frag} {H : Hp} {S : Sto} : ∀ {ps : List Pv} {vs : List V} {zs : List Str}, RepVs K H S ps vs → allS ps = some zs → vs = zs.map V.str
  | [], vs, zs, r, e => by
    have e1 : vs = [] := r
    cases e
    exact e1
  | .str z :: ps, vs, zs, ⟨v, w, e1, r1, r2⟩, e => by
    simp only [allS, Option.map_eq_some_iff] at e
    obtain ⟨ys, e2, rfl⟩ := e
    rw [e1, show v = _ from r1, allS_rep r2 e2]
    rfl
  | .non :: _, _, _, _, e => by cases e
  | .bl _ :: _, _, _, _, e => by cases e
  | .int _ :: _, _, _, _, e => by cases e
  | .tup _ :: _, _, _, _, e => by cases e
  | .lst _ :: _, _, _, _, e => by cases e
  | .dct _ _ :: _, _, _, _, e => by cases e
  | .ref _ :: _, _, _, _, e => by cases e
  | .ty _ :: _, _, _, _, e => by cases e
  | .scr _ :: _, _, _, _, e => by cases e
def oJoin : O2 := fun x y S Q => match x with
  | .str a => (match (seqP S y).bind allS with
    | some ys => (ys.map (·.length)).sum + ys.length * a.length ≤ 16777216 ∧ Q (.str (Txt.join a ys)) S
    | none => False)
  | _ => False
theorem pv_join (ha : PV X S0 H0 a fa) (hb : PV X S0 H0 b fb) (hs : starEach [b] X.env = [(false, eval b X.env)] := by rfl) (hbase : attributeBase a "join" X.env (eval a X.env) = eval a X.env := by rfl) (hline : (apos.endLine == pos.line) = true := by rfl) :
    PV X S0 H0 (.Call (.Attribute a "join" apos) [b] [] pos) (fMs oJoin fa fb) := by
  refine pv_m1 F.slot_str_join F.type_str_join mt_join ⟨fun x y S Q Q' h q => ?_, fun x y S Qp v u H Q rx ry rs h k => ?_⟩ ha hb hs hbase hline
  · unfold oJoin at q ⊢
    split at q
    · split at q
      · exact ⟨q.1, h _ _ q.2⟩
      · exact q
    · exact q
  · unfold oJoin at h
    split at h
    · rename_i x
      split at h
      · rename_i ys e
        obtain ⟨xs, e1, e2⟩ := Option.bind_eq_some_iff.mp e
        obtain ⟨p, vs, rfl, hq, r⟩ := seq_rep rs ry e1
        have e3 := allS_rep r e2
        subst e3
        exact ⟨x, p, ys, rx, rfl, hq, h.1, k _ S _ H h.2 rfl rs (Ext.refl S H)⟩
      · exact h.elim
    · exact h.elim
def oSIdx : O2 := fun x y S Q => match x, y with
  | .str a, .str b => (match Builtin.Str.occurrences a b 0 a.length 1 with
    | i :: _ => Q (.int (i : Nat)) S
    | [] => False)
  | _, _ => False
theorem pv_sindex (ha : PV X S0 H0 a fa) (hb : PV X S0 H0 b fb) (hs : starEach [b] X.env = [(false, eval b X.env)] := by rfl) (hbase : attributeBase a "index" X.env (eval a X.env) = eval a X.env := by rfl) (hline : (apos.endLine == pos.line) = true := by rfl) :
    PV X S0 H0 (.Call (.Attribute a "index" apos) [b] [] pos) (fMs oSIdx fa fb) := by
  refine pv_m1 F.slot_str_index F.type_str_index mt_sindex ⟨fun x y S Q Q' h q => ?_, fun x y S Qp v u H Q rx ry rs h k => ?_⟩ ha hb hs hbase hline
  · unfold oSIdx at q ⊢
    split at q
    · split at q
      · exact h _ _ q
      · exact q
    · exact q
  · unfold oSIdx at h
    split at h
    · rename_i x y
      split at h
      · rename_i i rest e
        exact ⟨x, y, i, rest, rx, by rw [show u = _ from ry], e, k _ S _ H h rfl rs (Ext.refl S H)⟩
      · exact h.elim
    · exact h.elim
def oStarts : O2 := fun x y S Q => match x, y with
  | .str a, .str b => Q (.bl (Txt.startswith a b)) S
  | _, _ => False
theorem pv_starts (ha : PV X S0 H0 a fa) (hb : PV X S0 H0 b fb) (hs : starEach [b] X.env = [(false, eval b X.env)] := by rfl) (hbase : attributeBase a "startswith" X.env (eval a X.env) = eval a X.env := by rfl) (hline : (apos.endLine == pos.line) = true := by rfl) :
    PV X S0 H0 (.Call (.Attribute a "startswith" apos) [b] [] pos) (fMs oStarts fa fb) := by
  refine pv_m1 F.slot_str_startswith F.type_str_startswith mt_startswith ⟨fun x y S Q Q' h q => ?_, fun x y S Qp v u H Q rx ry rs h k => ?_⟩ ha hb hs hbase hline
  · unfold oStarts at q ⊢
    split at q <;> first | exact h _ _ q | exact q
  · unfold oStarts at h
    split at h
    · rename_i x y
      exact ⟨x, y, rx, by rw [show u = _ from ry], k _ S _ H h rfl rs (Ext.refl S H)⟩
    · exact h.elim
def oSCnt : O2 := fun x y S Q => match x, y with
  | .str a, .str b => Q (.int (Txt.count a b)) S
  | _, _ => False
theorem pv_scount (ha : PV X S0 H0 a fa) (hb : PV X S0 H0 b fb) (hs : starEach [b] X.env = [(false, eval b X.env)] := by rfl) (hbase : attributeBase a "count" X.env (eval a X.env) = eval a X.env := by rfl) (hline : (apos.endLine == pos.line) = true := by rfl) :
    PV X S0 H0 (.Call (.Attribute a "count" apos) [b] [] pos) (fMs oSCnt fa fb) := by
  refine pv_m1 F.slot_str_count F.type_str_count mt_count ⟨fun x y S Q Q' h q => ?_, fun x y S Qp v u H Q rx ry rs h k => ?_⟩ ha hb hs hbase hline
  · unfold oSCnt at q ⊢
    split at q <;> first | exact h _ _ q | exact q
  · unfold oSCnt at h
    split at h
    · rename_i x y
      exact ⟨x, y, rx, by rw [show u = _ from ry], k _ S _ H h rfl rs (Ext.refl S H)⟩
    · exact h.elim
def oUpper : O1 := fun x S Q => match x with
  | .str a => a.length ≤ 5592405 ∧ Q (.str (Txt.upper a)) S
  | _ => False
theorem pv_upper (ha : PV X S0 H0 a fa) (hbase : attributeBase a "upper" X.env (eval a X.env) = eval a X.env := by rfl) (hline : (apos.endLine == pos.line) = true := by rfl) :
    PV X S0 H0 (.Call (.Attribute a "upper" apos) [] [] pos) (fMs0 oUpper fa) := by
  refine pv_m0 F.slot_str_upper F.type_str_upper mt_upper ⟨fun x S Q Q' h q => ?_, fun x S Qp v H Q rx rs h k => ?_⟩ ha hbase hline
  · unfold oUpper at q ⊢
    split at q
    · exact ⟨q.1, h _ _ q.2⟩
    · exact q
  · unfold oUpper at h
    split at h
    · rename_i x
      exact ⟨x, rx, rfl, h.1, k _ S _ H h.2 rfl rs (Ext.refl S H)⟩
    · exact h.elim
end
end PL

/-! The pure layer, part 8: slots that nobody asks for any more are forgotten. -/
namespace PL
open PySem PySem.Spec PyProof.Rows L2
theorem RepE.forget {K : PySem.W.Frag} {H : Hp} {S : Sto} {σ : L2.St} {ρ : Env'} (r : RepE K H S σ ρ) : ∀ vs : List Nat, RepE K H S σ (wipeP ρ vs)
  | [] => r
  | v :: vs => by
    have ih := RepE.forget r vs
    refine ⟨by show σ.length = ((wipeP ρ vs).set v none).length; rw [List.length_set]; exact ih.1, fun i p h => ?_⟩
    have h' : ((wipeP ρ vs).set v none)[i]? = some (some p) := h
    by_cases hi : v = i
    · subst hi
      rw [List.getElem?_set] at h'
      simp only [if_true] at h'
      split at h' <;> cases h'
    · rw [List.getElem?_set_ne hi] at h'
      exact ih.2 i p h'
def wE (ws : List Nat) (D : Ends') : Ends' := { nx := fun ρ S => D.nx (wipeP ρ ws) S, rt := D.rt, bk := fun ρ S => D.bk (wipeP ρ ws) S, ct := fun ρ S => D.ct (wipeP ρ ws) S }
def gEnd (ws : List Nat) (g : PFS) : PFS := fun D ρ S => g (wE ws D) ρ S
def gBeg (ws : List Nat) (g : PFS) : PFS := fun D ρ S => g D (wipeP ρ ws) S
section
variable {X : Cx} {S0 : Sto} {H0 : Hp} {st : Stmt} {sts : List Stmt} {g : PFS} {pos : Pos}
theorem gEnd_mono {ws : List Nat} (m : ∀ D D' ρ S, Ends'.le D D' → g D ρ S → g D' ρ S) : ∀ D D' ρ S, Ends'.le D D' → gEnd ws g D ρ S → gEnd ws g D' ρ S := fun D D' ρ S l q =>
  m (wE ws D) (wE ws D') ρ S ⟨fun ρ _ q => l.1 (wipeP ρ ws) _ q, l.2.1, fun ρ _ q => l.2.2.1 (wipeP ρ ws) _ q, fun ρ _ q => l.2.2.2 (wipeP ρ ws) _ q⟩ q
theorem lE_forget {K : PySem.W.Frag} {S : Sto} {H : Hp} {D : Ends} {ws : List Nat} : Ends'.le (wE ws (lE K S H D)) (lE K S H D) :=
  ⟨fun _ _ q σ' H' a1 a2 a3 => q σ' H' (a1.forget ws) a2 a3, fun _ _ q => q, fun _ _ q σ' H' a1 a2 a3 => q σ' H' (a1.forget ws) a2 a3, fun _ _ q σ' H' a1 a2 a3 => q σ' H' (a1.forget ws) a2 a3⟩
theorem pzs_end (ws : List Nat) (h : PZs X S0 H0 sts g) : PZs X S0 H0 sts (gEnd ws g) :=
  ⟨gEnd_mono h.mono, PSs.imp h.pss fun D σ H ⟨ρ, S, re, rs, ex, q⟩ => ⟨ρ, S, re, rs, ex, h.mono _ _ _ _ lE_forget q⟩⟩
theorem pz_end (ws : List Nat) (h : PZ X S0 H0 st g) : PZ X S0 H0 st (gEnd ws g) :=
  ⟨gEnd_mono h.mono, PS.imp h.ps fun D σ H ⟨ρ, S, re, rs, ex, q⟩ => ⟨ρ, S, re, rs, ex, h.mono _ _ _ _ lE_forget q⟩⟩
theorem pz_beg (ws : List Nat) (h : PZ X S0 H0 st g) : PZ X S0 H0 st (gBeg ws g) :=
  ⟨fun D D' ρ S l q => h.mono _ _ _ _ l q, PS.imp h.ps fun D σ H ⟨ρ, S, re, rs, ex, q⟩ => ⟨wipeP ρ ws, S, re.forget ws, rs, ex, q⟩⟩
theorem pzs_beg (ws : List Nat) (h : PZs X S0 H0 sts g) : PZs X S0 H0 sts (gBeg ws g) :=
  ⟨fun D D' ρ S l q => h.mono _ _ _ _ l q, PSs.imp h.pss fun D σ H ⟨ρ, S, re, rs, ex, q⟩ => ⟨wipeP ρ ws, S, re.forget ws, rs, ex, q⟩⟩
end
/-- a loop that carries no slot: what holds of the store -/
theorem forW_c {gd : Sto → Prop} {t : Tg} {b : PFS} {D : Ends'} {ρ0 : Env'} {P : Pv → Prop} (J : Sto → Prop) {its : List Pv} {S : Sto} (hP : ∀ x ∈ its, P x) (h0 : J S) (fin : ∀ S, J S → gd S ∧ D.nx ρ0 S)
    (step : ∀ x, P x → ∀ (k : Env' → Sto → Prop), (∀ S, J S → k ρ0 S) → ∀ S, J S → gd S ∧ match bindT S t x ρ0 with | some ρ' => b { nx := k, rt := D.rt, bk := D.nx, ct := k } ρ' S | none => False) : forW gd t b D its ρ0 S := by
  have main : ∀ (its : List Pv) (S : Sto), (∀ x ∈ its, P x) → J S → forW gd t b D its ρ0 S := by
    intro its
    induction its with
    | nil => exact fun S _ h => fin S h
    | cons x xs ih => exact fun S hP h => step x (hP x List.mem_cons_self) (forW gd t b D xs) (fun S' h' => ih S' (fun y hy => hP y (List.mem_cons_of_mem _ hy)) h') S h
  exact main its S hP h0
/-- .. what has been walked is known -/
theorem forW_a {α : Type} {gd : Sto → Prop} {t : Tg} {b : PFS} {D : Ends'} (g : α → Pv) (all : List α) (E : List α → Env') (J : List α → Sto → Prop) {its : List Pv} {ρ0 : Env'} {S : Sto} (e : its = all.map g) (e0 : ρ0 = E []) (h0 : J [] S) (fin : ∀ S, J all S → gd S ∧ D.nx (E all) S)
    (step : ∀ (pre : List α) (x : α) (post : List α), pre ++ x :: post = all → ∀ (k : Env' → Sto → Prop), (∀ S, J (pre ++ [x]) S → k (E (pre ++ [x])) S) → ∀ S, J pre S → gd S ∧ match bindT S t (g x) (E pre) with | some ρ' => b { nx := k, rt := D.rt, bk := D.nx, ct := k } ρ' S | none => False) : forW gd t b D its ρ0 S := by
  subst e e0
  have main : ∀ (pre xs : List α) (S : Sto), pre ++ xs = all → J pre S → forW gd t b D (xs.map g) (E pre) S := by
    intro pre xs
    induction xs generalizing pre with
    | nil => intro S e h; rw [List.append_nil] at e; subst e; exact fin S h
    | cons x xs ih => exact fun S e h => step pre x xs e (forW gd t b D (xs.map g)) (fun S' h' => ih (pre ++ [x]) S' (by rw [List.append_assoc]; exact e) h') S h
  exact main [] all S rfl h0
end PL

/-! The pure layer, part 9: sorted. -/
namespace PL
open PySem PySem.Spec PyProof.Rows L2
open PySem.W (dataLe dataLt alike AllAlike EachIs)
theorem DpAll.len {K : PySem.W.Frag} {H : Hp} : ∀ {vs : List V} {ds : List PyData}, DpAll K H vs ds → vs.length = ds.length
  | [], _, h => by cases h; rfl
  | _ :: _, _, h => by cases h with | cons _ h2 => rw [List.length_cons, List.length_cons, DpAll.len h2]
/-- sorted of data that are alike: in their order -/
def rSortD (K : PySem.W.Frag) : List V → Hp → VK → Prop := fun vs H Q => ∃ (a : Addr) (xs : List V) (ds : List PyData), vs = [V.ref a] ∧ SqL K H a xs ∧ DpAll K H xs ds ∧ AllAlike ds ∧ PySem.W.Sortable ds ∧ (∀ d ∈ ds, d.depth ≤ 60) ∧
  ∀ p, H p = none → Q (.ref p) (upd H p (.lst (((xs.zip ds).mergeSort (dataLe false (·.2))).map (·.1))))
section
variable {X : Cx} {pins : List (Addr × Obj)} {σ : L2.St} {H : Hp} {s : Shared}
theorem each_rel : ∀ {xs : List V} {us : List Value} {ds : List PyData}, Vals xs us → DpAll X.K H xs ds → EachIs (fun u (z : V × PyData) => RelV z.1 u) us (xs.zip ds)
  | [], us, ds, r, h => by cases h; cases r; exact .nil
  | _ :: _, us, ds, r, h => by
    cases h with
    | cons h1 h2 =>
      cases r with
      | cons r1 r2 => exact .cons r1 (each_rel r2 h2)
theorem each_reads (I : Inv X pins σ H s) : ∀ {xs : List V} {us : List Value} {ds : List PyData}, Vals xs us → DpAll X.K H xs ds → EachIs (fun u (z : V × PyData) => ∃ as, Reads s.heap u z.2 as) us (xs.zip ds)
  | [], us, ds, r, h => by cases h; cases r; exact .nil
  | _ :: _, us, ds, r, h => by
    cases h with
    | cons h1 h2 =>
      cases r with
      | cons r1 r2 => exact .cons (Dp.reads I _ _ _ h1 r1) (each_reads I r2 h2)
theorem each_vals : ∀ {us : List Value} {zs : List (V × PyData)}, EachIs (fun u (z : V × PyData) => RelV z.1 u) us zs → Vals (zs.map (·.1)) us
  | _, _, .nil => .nil
  | _, _, .cons h h2 => .cons h (each_vals h2)
theorem cr_sortD (hu : X.A.units + 64 < cLine) : CallR X (.builtin "sorted") (rSortD X.K) := by
  intro pins s σ H vs us Q I r h
  obtain ⟨a, xs, ds, rfl, hs, hd, al, so, dp, q⟩ := h
  obtain ⟨its, rv, hl, hz⟩ := I.list hs
  obtain ⟨u, rfl, ru⟩ := vals1 r
  obtain rfl : u = Value.ref a := ru
  have em : (xs.zip ds).map (·.2) = ds := List.map_snd_zip (by rw [DpAll.len hd]; exact Nat.le_refl _)
  have e1 : (xs.zip ds).length = xs.length := by rw [List.length_zip, ← DpAll.len hd, Nat.min_self]
  refine PySem.W.sorted_data (enc := fun z : V × PyData => z.2) (R := fun u (z : V × PyData) => RelV z.1 u) hl.isList (each_rel rv hd) (each_reads I rv hd) (by rw [em]; exact al) (by rw [em]; exact so) (by rw [e1]; exact hz) (fun b hb => ?_) fun out ho he => ?_
  · have := dp b.2 (by rw [← em]; exact List.mem_map.mpr ⟨b, hb, rfl⟩)
    omega
  · have rvo := each_vals he
    have hn : H (s.heap.objs.size + 1) = none := I.hok.fresh (Nat.le_succ _)
    obtain ⟨n, hn2⟩ := sortedAll_at s.heap its out.toArray
    refine ⟨.ref (s.heap.objs.size + 1), upd H (s.heap.objs.size + 1) (.lst (((xs.zip ds).mergeSort (dataLe false (·.2))).map (·.1))), I.laid (t' := s.toks) (fun b o e => sortedAll_old e) (Nat.le_succ _) ⟨?_, out, n, rvo, hn2⟩, rfl, q _ hn⟩
    rw [List.length_map, List.length_mergeSort, e1]
    exact hz
end
namespace SortT
open PySem.W PySem.Builtin
section
variable {prog : Program} {w : World} {A : Around} {E : Value → Shared → Prop} {s : Shared}
theorem collect_tuple {l : Addr} {vs : List Value} {Q : List Value → Shared → Prop} (hl : s.heap.IsTuple l vs.toArray)
    (h : Q vs { s with heap := (s.heap.push (seqObj "list" #[] 0)).update s.heap.objs.size (Obj.mapSeq (· ++ vs.toArray)) }) (hsz : vs.length ≤ sizeLine) :
    wpAny (model prog w) A (collect (.ref l)) Q E s := by
  obtain ⟨o, ho, hc, n, hd⟩ := id hl
  unfold collect
  refine wpAny_bind (wpAny_runValue (codeAny_builtin entry_proto_collect' ?_))
  show wpAny _ _ (do again (.builtin "list.__iadd__" ⟨[← newList [], .ref l], []⟩)) _ _ s
  refine wpAny_bind (wpAny_newList (wpAny_pure ⟨Code.quiet_builtin _ (by decide +kernel), codeAny_builtin entry_list_iadd' ?_⟩))
  show wpAny _ _ (Builtin.List.listExtendWith (.ref s.heap.objs.size) (.ref l) (.ref s.heap.objs.size)) _ _ { s with heap := s.heap.push (seqObj "list" #[] 0) }
  unfold Builtin.List.listExtendWith
  have ho' : (s.heap.push (seqObj "list" #[] 0)).get? l = some o := Heap.get?_push_of_some _ ho
  refine wpAny_bind (wpAny_typeOf (T := "tuple") ⟨o, ho', hc⟩ ?_)
  have ht : (Value.type "tuple" == Value.type "tuple") = true := by rfl
  rw [if_pos (by rw [ht]; simp)]
  refine wpAny_bind (listItems_at ho' hd ?_)
  refine wpAny_bind (listItems_at (xs := #[]) (n := 0) (Heap.get?_push_size _ rfl) rfl ?_)
  rw [if_neg (by simp)]
  refine wpAny_bind (listUpdate_at (xs := #[]) (n := 0) (Heap.get?_push_size _ rfl) rfl ?_ (Nat.zero_le _) (by show (#[] ++ vs.toArray).size ≤ sizeLine + 1; simp only [Array.size_append, List.size_toArray, List.length_nil]; omega))
  refine wpAny_pure ?_
  show wpAny (model prog w) A (do
      let o ← load s.heap.objs.size
      match o.data with
      | .seq xs _ => pure xs.toList
      | _ => unsupported "internal:collect") Q E { s with heap := (s.heap.push (seqObj "list" #[] 0)).update s.heap.objs.size (Obj.mapSeq (· ++ vs.toArray)) }
  refine wpAny_bind (wpAny_load (get?_update_seq (Heap.get?_push_size _ rfl) _) ?_)
  show wpAny _ _ (pure ((#[] : Array Value) ++ vs.toArray).toList) Q E _
  rw [show ((#[] : Array Value) ++ vs.toArray).toList = vs by simp]
  exact wpAny_pure h
theorem sorted_of_sortT {l : Addr} {vs : List Value} {kw : List (Str × Value)} {Q : Value → Shared → Prop} (hl : s.heap.IsTuple l vs.toArray) (hL : vs.length ≤ sizeLine) (ha1 : argsOk "sorted" ⟨[.ref l], kw⟩) (ha2 : ∀ x, argsOk "list.sort" ⟨[.ref x], kw⟩)
    (body : ∀ E' : Value → Shared → Prop, wpAny (model prog w) A.in1.in1 (Builtin.«list.sort» ⟨[.ref (s.heap.objs.size + 1)], kw⟩) (fun f s' => f = .done (.ret .none) ∧ Q (.ref (s.heap.objs.size + 1)) s') E' { s with heap := copyHeap s.heap vs }) :
    wpAny (model prog w) A (call (.builtin "sorted") [.ref l] kw) Q E s := by
  refine call_function_entry_kw kind_sorted plain_sorted entry_sorted ha1 ?_
  unfold Builtin.«sorted»
  refine wpAny_bind (m := checkCount "sorted" 1 1 _) (wpAny_pure ?_)
  refine wpAny_bind (collect_tuple hl ?_ hL)
  refine wpAny_bind (wpAny_newList ?_ hL)
  have hsz : ((s.heap.push (seqObj "list" #[] 0)).update s.heap.objs.size (Obj.mapSeq (· ++ vs.toArray))).objs.size = s.heap.objs.size + 1 := by
    rw [Heap.size_update, size_push']
  show wpAny _ _ _ _ _ { s with heap := copyHeap s.heap vs }
  rw [hsz]
  refine wpAny_bind (wpAny_holding (wpAny_call_entry_kw slot_list_sort ⟨_, copyHeap_at s.heap vs, rfl⟩ entry_list_sort ?body (ha2 _)))
  case body =>
    show wpAny (model prog w) A.in1.in1 (Builtin.«list.sort» ⟨[.ref (s.heap.objs.size + 1)], kw⟩) _ _ _
    refine wpAny_mono (body _) (fun f s' hf => ?_) fun _ _ e => e
    obtain ⟨rfl, hq⟩ := hf
    exact ⟨_, rfl, wpAny_pure ⟨_, rfl, hq⟩⟩
theorem sorted_dataT {β : Type} {vs : List Value} {bs : List β} {enc : β → PyData} {R : Value → β → Prop} {l : Addr} {Q : Value → Shared → Prop} (hl : s.heap.IsTuple l vs.toArray) (e : EachIs R vs bs) (er : EachIs (fun v b => ∃ as, Reads s.heap v (enc b) as) vs bs) (hal : AllAlike (bs.map enc)) (hk : PySem.W.Sortable (bs.map enc)) (hL : bs.length ≤ sizeLine)
    (hu : ∀ b, b ∈ bs → A.units + 2 + (enc b).depth < cLine) (h : ∀ out, out.length = bs.length → EachIs R out (bs.mergeSort (dataLe false enc)) → Q (.ref (s.heap.objs.size + 1)) { s with heap := sortedAll s.heap vs (List.toArray out) }) :
    wpAny (model prog w) A (call (.builtin "sorted") [.ref l]) Q E s := by
  have er' : EachIs (fun v b => ∃ as, Reads (sortingHeap (copyHeap s.heap vs) (s.heap.objs.size + 1) vs) v (enc b) as) vs bs := er.mono fun _ _ ⟨as, r⟩ => ⟨as, PyProof.Rows.Reads.keeps (fun _ _ => sorting_copy_old) r⟩
  have hL2 : vs.length ≤ sizeLine := by rw [e.length]; exact hL
  refine sorted_of_sortT hl hL2 (args_sorted1 _) (fun _ => args_list_sort _) fun _ => list_sort_vals (s := { s with heap := copyHeap s.heap vs }) (copyHeap_at s.heap vs) (SortsAt.data (s := { s with heap := sortingHeap (copyHeap s.heap vs) (s.heap.objs.size + 1) vs }) (each_map (R := fun v d => ∃ as, Reads (sortingHeap (copyHeap s.heap vs) (s.heap.objs.size + 1) vs) v d as) enc er') hal hk (bound_map hu)) hL2 ⟨rfl, ?_⟩
  exact h _ (by rw [sortVals_length false rfl]; exact e.length) (sortVals_data false e er' hal)
end
end SortT
section
variable {X : Cx} {pins : List (Addr × Obj)} {σ : L2.St} {H : Hp} {s : Shared}
def rSortT (K : PySem.W.Frag) : List V → Hp → VK → Prop := fun vs H Q => ∃ (a : Addr) (xs : List V) (ds : List PyData), vs = [V.ref a] ∧ SqT K H a xs ∧ DpAll K H xs ds ∧ AllAlike ds ∧ PySem.W.Sortable ds ∧ (∀ d ∈ ds, d.depth ≤ 60) ∧
  ∀ p, H p = none → Q (.ref p) (upd H p (.lst (((xs.zip ds).mergeSort (dataLe false (·.2))).map (·.1))))
theorem cr_sortT' (hu : X.A.units + 64 < cLine) : CallR X (.builtin "sorted") (rSortT X.K) := by
  intro pins s σ H vs us Q I r h
  obtain ⟨a, xs, ds, rfl, hs, hd, al, so, dp, q⟩ := h
  obtain ⟨its, rv, hl, hz⟩ := I.tuple hs
  obtain ⟨u, rfl, ru⟩ := vals1 r
  obtain rfl : u = Value.ref a := ru
  have em : (xs.zip ds).map (·.2) = ds := List.map_snd_zip (by rw [DpAll.len hd]; exact Nat.le_refl _)
  have e1 : (xs.zip ds).length = xs.length := by rw [List.length_zip, ← DpAll.len hd, Nat.min_self]
  refine SortT.sorted_dataT (enc := fun z : V × PyData => z.2) (R := fun u (z : V × PyData) => RelV z.1 u) hl (each_rel rv hd) (each_reads I rv hd) (by rw [em]; exact al) (by rw [em]; exact so) (by rw [e1]; exact hz) (fun b hb => ?_) fun out ho he => ?_
  · have := dp b.2 (by rw [← em]; exact List.mem_map.mpr ⟨b, hb, rfl⟩)
    omega
  · have rvo := each_vals he
    have hn : H (s.heap.objs.size + 1) = none := I.hok.fresh (Nat.le_succ _)
    obtain ⟨n, hn2⟩ := sortedAll_at s.heap its out.toArray
    refine ⟨.ref (s.heap.objs.size + 1), upd H (s.heap.objs.size + 1) (.lst (((xs.zip ds).mergeSort (dataLe false (·.2))).map (·.1))), I.laid (t' := s.toks) (fun b o e => sortedAll_old e) (Nat.le_succ _) ⟨?_, out, n, rvo, hn2⟩, rfl, q _ hn⟩
    rw [List.length_map, List.length_mergeSort, e1]
    exact hz
end
/-- the sorted list -/
def sortP (xs : List Pv) : List Pv := xs.mergeSort (dataLe false toD)
def sortOk (xs : List Pv) : Prop := isDs xs = true ∧ AllAlike (xs.map toD) ∧ PySem.W.Sortable (xs.map toD) ∧ ∀ x ∈ xs, (toD x).depth ≤ 60
def oSorted : On := fun ps S Q => match ps with
  | [.tup xs] => sortOk xs ∧ Q (.lst (sortP xs)) S
  | [x] => (match rdL S x with | some xs => sortOk xs ∧ Q (.lst (sortP xs)) S | none => False)
  | _ => False
theorem toDs_map : ∀ xs : List Pv, toDs xs = xs.map toD
  | [] => rfl
  | x :: xs => by rw [toDs, toDs_map xs]; rfl
theorem RepVs.mem {K : PySem.W.Frag} {H : Hp} {S : Sto} : ∀ {zs : List (V × Pv)}, (∀ z ∈ zs, RepV K H S z.2 z.1) → RepVs K H S (zs.map (·.2)) (zs.map (·.1))
  | [], _ => rfl
  | z :: zs, h => ⟨z.1, zs.map (·.1), rfl, h z List.mem_cons_self, RepVs.mem fun y hy => h y (List.mem_cons_of_mem _ hy)⟩
theorem RepVs.zip {K : PySem.W.Frag} {H : Hp} {S : Sto} : ∀ {xs : List Pv} {vs : List V}, RepVs K H S xs vs → ∀ z ∈ vs.zip xs, RepV K H S z.2 z.1
  | [], _, h, z, hz => by have e : _ = [] := h; rw [e] at hz; cases hz
  | p :: ps, _, ⟨v, r, e, h1, h2⟩, z, hz => by
    rw [e] at hz
    rcases List.mem_cons.mp hz with rfl | hz
    · exact h1
    · exact RepVs.zip h2 z hz
section
variable {X : Cx} {S0 : Sto} {H0 : Hp} {a : Expr} {fs : PFs} {pos p : Pos}
theorem sort_rep {K : PySem.W.Frag} {H : Hp} {S : Sto} {xs : List Pv} {vs : List V} (r : RepVs K H S xs vs) : RepVs K H S (sortP xs) (((vs.zip (toDs xs)).mergeSort (dataLe false (·.2))).map (·.1)) := by
  have e1 : ((vs.zip xs).mergeSort (dataLe false fun z : V × Pv => toD z.2)).map (·.2) = sortP xs := by
    unfold sortP
    rw [List.map_mergeSort (r := dataLe false fun z : V × Pv => toD z.2) (s := dataLe false toD) (f := fun z : V × Pv => z.2) (fun _ _ _ _ => rfl), List.map_snd_zip (by rw [r.len]; exact Nat.le_refl _)]
  have e2 : ((vs.zip xs).mergeSort (dataLe false fun z : V × Pv => toD z.2)).map (·.1) = ((vs.zip (toDs xs)).mergeSort (dataLe false (·.2))).map (·.1) := by
    have e3 : vs.zip (toDs xs) = (vs.zip xs).map fun z => (z.1, toD z.2) := by
      rw [toDs_map, List.zip_map_right]
      rfl
    rw [e3, ← List.map_mergeSort (r := dataLe false fun z : V × Pv => toD z.2) (f := fun z : V × Pv => (z.1, toD z.2)) (fun _ _ _ _ => rfl), List.map_map]
    rfl
  rw [← e1, ← e2]
  exact RepVs.mem fun z hz => r.zip z ((List.mergeSort_perm _ _).mem_iff.mp hz)
theorem pv_sorted (hu : X.A.units + 64 < cLine) (hm : X.mg "sorted" = none) (ha : PVs X S0 H0 [a] fs) (hg : Gl X "sorted" := by rfl) (he : starEach (a :: []) X.env = (false, eval a X.env) :: starEach [] X.env := by rfl) (hpl : (backTo pos (starEach [] X.env)).any (·.1) = false := by rfl) : PV X S0 H0 (.Call (.Name "sorted" p) [a] [] pos) (fN oSorted fs) := by
  refine pv_callB (CallR.or (cr_sortD hu) (cr_sortT' hu)) ⟨fun x S Q Q' h q => ?_, fun x S Qp v H Q rx rs h k => ?_⟩ hg hm (by decide +kernel) ha (by decide) (by decide) he hpl
  · unfold oSorted at q ⊢
    split at q
    · exact ⟨q.1, h _ _ q.2⟩
    · split at q
      · exact ⟨q.1, h _ _ q.2⟩
      · exact q
    · exact q
  · unfold oSorted at h
    split at h
    · obtain ⟨v1, rfl, r1⟩ := rx.one
      rename_i xs
      obtain ⟨⟨h1, h2, h3, h4⟩, h5⟩ := h
      obtain ⟨t, vs, e1, hq, r⟩ := r1
      refine .inr ⟨t, vs, toDs xs, by rw [e1], hq, dps_of _ _ r h1, by rw [toDs_map]; exact h2, by rw [toDs_map]; exact h3, ?_, fun p np => ?_⟩
      · intro d hd
        rw [toDs_map] at hd
        obtain ⟨x, hx, rfl⟩ := List.mem_map.mp hd
        exact h4 x hx
      · obtain ⟨a1, a2, a3⟩ := newL_k rs np (sort_rep r)
        exact k _ S _ _ h5 a1 a2 a3
    · obtain ⟨v1, rfl, r1⟩ := rx.one
      split at h
      · rename_i xs e0
        obtain ⟨⟨h1, h2, h3, h4⟩, h5⟩ := h
        obtain ⟨t, vs, e1, hq, r⟩ := rdL_rep rs r1 e0
        refine .inl ⟨t, vs, toDs xs, by rw [e1], hq, dps_of _ _ r h1, by rw [toDs_map]; exact h2, by rw [toDs_map]; exact h3, ?_, fun p np => ?_⟩
        · intro d hd
          rw [toDs_map] at hd
          obtain ⟨x, hx, rfl⟩ := List.mem_map.mp hd
          exact h4 x hx
        · obtain ⟨a1, a2, a3⟩ := newL_k rs np (sort_rep r)
          exact k _ S _ _ h5 a1 a2 a3
      · exact h.elim
    · exact h.elim
/-- .. a list that is to be changed -/
def oSortedT : On := fun ps S Q => match ps with
  | [x] => (match rdL S x with | some xs => sortOk xs ∧ ∀ a, S a = none → Q (.ref a) (put S a (.lst (sortP xs))) | none => False)
  | _ => False
theorem pv_sortedT (hu : X.A.units + 64 < cLine) (hm : X.mg "sorted" = none) (ha : PVs X S0 H0 [a] fs) (hg : Gl X "sorted" := by rfl) (he : starEach (a :: []) X.env = (false, eval a X.env) :: starEach [] X.env := by rfl) (hpl : (backTo pos (starEach [] X.env)).any (·.1) = false := by rfl) : PV X S0 H0 (.Call (.Name "sorted" p) [a] [] pos) (fN oSortedT fs) := by
  refine pv_callB (cr_sortD hu) ⟨fun x S Q Q' h q => ?_, fun x S Qp v H Q rx rs h k => ?_⟩ hg hm (by decide +kernel) ha (by decide) (by decide) he hpl
  · unfold oSortedT at q ⊢
    split at q
    · split at q
      · exact ⟨q.1, fun a ha => h _ _ (q.2 a ha)⟩
      · exact q
    · exact q
  · unfold oSortedT at h
    split at h
    · obtain ⟨v1, rfl, r1⟩ := rx.one
      split at h
      · rename_i xs e0
        obtain ⟨⟨h1, h2, h3, h4⟩, h5⟩ := h
        obtain ⟨t, vs, e1, hq, r⟩ := rdL_rep rs r1 e0
        refine ⟨t, vs, toDs xs, by rw [e1], hq, dps_of _ _ r h1, by rw [toDs_map]; exact h2, by rw [toDs_map]; exact h3, ?_, fun p np => ?_⟩
        · intro d hd
          rw [toDs_map] at hd
          obtain ⟨x, hx, rfl⟩ := List.mem_map.mp hd
          exact h4 x hx
        · exact k _ _ _ _ (h5 p (rs.fr np)) rfl (rs.newL np (sort_rep r)) (Ext.newS np)
      · exact h.elim
    · exact h.elim
end
/-! ### what may be sorted -/
theorem isDs_map {α : Type} {f : α → Pv} (h : ∀ x, isD (f x) = true) : ∀ xs : List α, isDs (xs.map f) = true
  | [] => rfl
  | x :: xs => by show (isD (f x) && isDs (xs.map f)) = true; rw [h x, isDs_map h xs]; rfl
theorem sortOk_str (xs : List Str) : sortOk (xs.map Pv.str) := by
  refine ⟨isDs_map (fun _ => rfl) xs, ?_, .inr ?_, ?_⟩
  · intro d hd d' hd'
    simp only [List.map_map, List.mem_map, Function.comp_apply] at hd hd'
    obtain ⟨x, _, rfl⟩ := hd
    obtain ⟨y, _, rfl⟩ := hd'
    rfl
  · intro d hd
    simp only [List.map_map, List.mem_map, Function.comp_apply] at hd
    obtain ⟨x, _, rfl⟩ := hd
    exact ⟨fun e => (by cases e), fun xs e => (by cases e)⟩
  · intro d hd
    obtain ⟨x, _, rfl⟩ := List.mem_map.mp hd
    exact Nat.zero_le _
theorem sortOk_int (xs : List Int) : sortOk (xs.map Pv.int) := by
  refine ⟨isDs_map (fun _ => rfl) xs, ?_, .inr ?_, ?_⟩
  · intro d hd d' hd'
    simp only [List.map_map, List.mem_map, Function.comp_apply] at hd hd'
    obtain ⟨x, _, rfl⟩ := hd
    obtain ⟨y, _, rfl⟩ := hd'
    rfl
  · intro d hd
    simp only [List.map_map, List.mem_map, Function.comp_apply] at hd
    obtain ⟨x, _, rfl⟩ := hd
    exact ⟨fun e => (by cases e), fun xs e => (by cases e)⟩
  · intro d hd
    obtain ⟨x, _, rfl⟩ := List.mem_map.mp hd
    exact Nat.zero_le _
end PL

/-! The pure layer, part 10: more built-ins. -/
namespace PL
open PySem PySem.Spec PyProof.Rows L2
section
variable {X : Cx} {S0 : Sto} {H0 : Hp} {a b : Expr} {fa fb : PF} {fs : PFs} {pos p : Pos}
theorem call_divmodZ : CallR X (.builtin "divmod") (fun xs H Q => ∃ i j, xs = [.int i, .int j] ∧ (j ≠ 0 ∧ j.natAbs.log2 < 9000) ∧ ∀ p, H p = none → Q (.ref p) (upd H p (.tup [.int (i.fdiv j), .int (i.fmod j)]))) := by
  intro pins s σ H xs us Q I r h
  obtain ⟨i, j, rfl, ⟨h1, h2⟩, q⟩ := h
  obtain ⟨u, w', rfl, ⟨t, rfl⟩, ⟨t', rfl⟩⟩ := vals2 r
  refine divmod_int h1 ?_ (.inl (PyProof.noPylong_of_log2 h2))
  have hn : H s.heap.objs.size = none := I.hok.fresh (Nat.le_refl _)
  refine ⟨.ref s.heap.objs.size, _, ?_, rfl, q _ hn⟩
  refine I.laid (fun b o e => Heap.get?_push_of_some _ e) (Nat.le_refl _) ⟨by simp only [List.length_cons, List.length_nil]; rw [sizeLine_eq]; decide, [.int (i.fdiv j) s.toks, .int (i.fmod j) (s.toks + 1)], .cons ⟨_, rfl⟩ (.cons ⟨_, rfl⟩ .nil), ?_⟩
  exact ⟨_, Heap.get?_push_size s.heap rfl, rfl, 0, rfl⟩
def oDivmod : On := fun ps S Q => match ps with
  | [.int i, .int j] => (j ≠ 0 ∧ j.natAbs.log2 < 9000) ∧ Q (.tup [.int (i.fdiv j), .int (i.fmod j)]) S
  | _ => False
theorem pv_divmod (hm : X.mg "divmod" = none) (ha : PVs X S0 H0 [a, b] fs) (hg : Gl X "divmod" := by rfl) (he : starEach (a :: [b]) X.env = (false, eval a X.env) :: starEach [b] X.env := by rfl) (hpl : (backTo pos (starEach [b] X.env)).any (·.1) = false := by rfl) : PV X S0 H0 (.Call (.Name "divmod" p) [a, b] [] pos) (fN oDivmod fs) := by
  refine pv_callB call_divmodZ ⟨fun x S Q Q' h q => ?_, fun x S Qp v H Q rx rs h k => ?_⟩ hg hm (by decide +kernel) ha (by decide) (by decide) he hpl
  · unfold oDivmod at q ⊢
    split at q
    · exact ⟨q.1, h _ _ q.2⟩
    · exact q
  · unfold oDivmod at h
    split at h
    · rename_i i j
      obtain ⟨v1, v2, rfl, r1, r2⟩ := rx.two
      refine ⟨i, j, by rw [show v1 = _ from r1, show v2 = _ from r2], h.1, fun p np => ?_⟩
      obtain ⟨a1, a2, a3⟩ := newT_k rs np (xs := [.int (i.fdiv j), .int (i.fmod j)]) ⟨_, _, rfl, rfl, _, _, rfl, rfl, rfl⟩
      exact k _ S _ _ h.2 a1 a2 a3
    · exact h.elim
end
end PL

/-! The pure layer, part 11: xs[::-1] of a list or a tuple. -/
namespace PL
open PySem PySem.Spec PyProof.Rows L2
open HT (slicePart_)
namespace RevT
section
variable {prog : Program} {w : World} {A : Around} {E : Value → Shared → Prop} {s : Shared}
theorem adjust_rev (n : Nat) : Builtin.Slice.sliceAdjust none none (-1) (n : Int) = ((n : Int) - 1, -1) := by
  unfold Builtin.Slice.sliceAdjust
  simp
theorem places_rev (n : Nat) : Builtin.Slice.slicePlaces ((n : Int) - 1) (-1) (-1) = n := by
  unfold Builtin.Slice.slicePlaces
  have h1 : ¬ ((-1 : Int) > 0) := by decide
  rw [if_neg h1, show (- -1 : Int) = 1 by decide, Int.ediv_one]
  split <;> omega
theorem applied_rev {sl : Addr} {vl vu vk : Value} {n : Nat} {Q : Int × Int × Nat → Shared → Prop} (hs : s.heap.IsSliceOf sl vl vu vk) (pl : IsPart vl none) (pu : IsPart vu none) (pk : IsPart vk (some (-1)))
    (h : Q ((n : Int) - 1, -1, n) s) : wpAny (model prog w) A (Builtin.Slice.sliceApplied (.ref sl) (pure (n : Int))) Q E s := by
  obtain ⟨os, hos, hcs, hds⟩ := id hs
  unfold Builtin.Slice.sliceApplied Builtin.Slice.sliceFields
  refine wpAny_bind (wpAny_bind (wpAny_field hos hds (x := vl) rfl (wpAny_bind (wpAny_field hos hds (x := vu) rfl (wpAny_bind (wpAny_field hos hds (x := vk) rfl (wpAny_pure ?_)))))))
  refine wpAny_bind (slicePart_ pk ?_)
  show wpAny _ _ (if ((-1 : Int) == 0) = true then _ else _) _ _ s
  rw [if_neg (by decide)]
  refine wpAny_bind (slicePart_ pl (wpAny_bind (slicePart_ pu (wpAny_bind (wpAny_pure ?_)))))
  show wpAny _ _ (match Builtin.Slice.sliceAdjust none none (-1) (n : Int) with | (lo, hi) => pure (lo, (-1 : Int), Builtin.Slice.slicePlaces lo hi (-1))) _ _ s
  rw [adjust_rev n]
  show wpAny _ _ (pure ((n : Int) - 1, (-1 : Int), Builtin.Slice.slicePlaces ((n : Int) - 1) (-1) (-1))) _ _ s
  rw [places_rev]
  exact wpAny_pure h
theorem pick_rev (xs : Array Value) : ((List.range xs.size).filterMap fun (m : Nat) => xs[((xs.size : Int) - 1 + (m : Int) * (-1)).toNat]?).toArray = xs.toList.reverse.toArray := by
  have e : ((List.range xs.size).filterMap fun (m : Nat) => xs[((xs.size : Int) - 1 + (m : Int) * (-1)).toNat]?) = ((List.range xs.size).map fun k => xs.size - 1 - k).filterMap (xs[·]?) := by
    rw [List.filterMap_map]
    have key : ∀ l : List Nat, (∀ m ∈ l, m < xs.size) → (l.filterMap fun (m : Nat) => xs[((xs.size : Int) - 1 + (m : Int) * (-1)).toNat]?) = l.filterMap ((xs[·]?) ∘ fun k => xs.size - 1 - k) := by
      intro l
      induction l with
      | nil => intro _; rfl
      | cons m l ih =>
        intro h
        have hm := h m List.mem_cons_self
        have e : ((xs.size : Int) - 1 + (m : Int) * (-1)).toNat = xs.size - 1 - m := by omega
        rw [List.filterMap_cons, List.filterMap_cons, ih fun k hk => h k (List.mem_cons_of_mem _ hk), e]
        rfl
    exact key _ fun m hm => List.mem_range.mp hm
  rw [e, PySem.W.krv_range, List.filterMap_reverse, PySem.W.krv_all]
theorem getItem_rev {t sl : Addr} {items : Array Value} {vl vu vk : Value} {Q : Value → Shared → Prop} (ht : IsTup s.heap t items) (hs : s.heap.IsSliceOf sl vl vu vk) (pl : IsPart vl none) (pu : IsPart vu none) (pk : IsPart vk (some (-1)))
    (h : Q (.ref s.heap.objs.size) { s with heap := s.heap.push { cls := .type "tuple", data := .seq items.toList.reverse.toArray } })
    (hsz : items.size ≤ sizeLine) : wpAny (model prog w) A (getItem (.ref t) (.ref sl)) Q E s := by
  have htake : sizeOk (.seq items.toList.reverse.toArray) := by
    show items.toList.reverse.toArray.size ≤ sizeLine
    rw [List.size_toArray, List.length_reverse, Array.length_toList]
    exact hsz
  obtain ⟨os, hos, hcs, hds⟩ := id hs
  have hTs : s.TypeIs (.ref sl) "slice" := ⟨os, hos, hcs⟩
  unfold getItem
  try with_reducible refine wpAny_holding ?_
  first | refine wpAny_bind (wpAny_pure ?_) | skip
  refine wpAny_bind (wpAny_sequenceKey ht.typeIs (by decide) ?_)
  refine wpAny_bind (wpAny_callSpecial?_slot (name := Str.ofString "__getitem__") ht.typeIs PyProof.Rows.slot_tuple_getitem
    (wpAny_call_entry PyProof.Rows.slot_tuple_getitem ht.typeIs entry_tuple_getitem ?_ (args_tuple_getitem _ _)))
  show wpAny _ _ (Builtin.Tuple.tupleItemsOf (.ref t) >>= _) _ _ s
  refine wpAny_bind (tupleItemsOf_ ht ?_)
  refine wpAny_bind (wpAny_typeOf hTs ?_)
  rw [if_pos (by decide)]
  refine wpAny_bind (applied_rev hs pl pu pk ?_)
  have hno : ¬ (((((items.size : Nat) : Int) - 1) == 0 && (-1 : Int) == 1 && items.size == items.size) = true) := by
    rw [show ((-1 : Int) == 1) = false by decide, Bool.and_false, Bool.false_and]
    exact Bool.false_ne_true
  show wpAny _ _ (if ((((items.size : Nat) : Int) - 1) == 0 && (-1 : Int) == 1 && items.size == items.size) = true then _ else _) _ _ s
  rw [if_neg hno, pick_rev]
  first
    | exact wpAny_bind (m := Builtin.Tuple.tupleExact _) (wpAny_newObj_type (wpAny_pure ⟨_, rfl, wpAny_pure h⟩) htake)
    | exact wpAny_bind (m := Builtin.Tuple.tupleExact _) (wpAny_newObj_type (wpAny_bind (wpAny_pure (wpAny_pure ⟨_, rfl, wpAny_pure h⟩))) htake)
    | exact wpAny_bind (wpAny_bind (m := Builtin.Tuple.tupleExact _) (wpAny_newObj_type (wpAny_pure (wpAny_pure ⟨_, rfl, wpAny_pure h⟩)) htake))
    | exact wpAny_bind (wpAny_bind (m := Builtin.Tuple.tupleExact _) (wpAny_newObj_type (wpAny_pure ⟨_, rfl, wpAny_pure h⟩) htake))
end
section
variable {X : Cx}
def tRevA (K : PySem.W.Frag) (te : TE) : TE := fun σ H Q => te σ H fun x H1 => (∃ a xs, x = .ref a ∧ SqL K H1 a xs ∧ ∀ p, H1 p = none → Q (.ref p) (upd H1 p (.lst xs.reverse))) ∨ ∃ a xs, x = .ref a ∧ SqT K H1 a xs ∧ ∀ p, H1 p = none → Q (.ref p) (upd H1 p (.tup xs.reverse))
theorem pe_revA {e : Expr} {te : TE} {k : Nat} {p1 p2 p3 pos : Pos} (he : PE X e te) : PE X (.Subscript e (.Slice none none (some (.UnaryOp .USub (.Constant (.int 1) k p1) p2)) p3) pos) (tRevA X.K te) := by
  refine ⟨fun pins s σ H Q I h => ?_⟩
  refine Subscript_ (thn (he.run pins s σ H _ I h) fun v s1 ⟨x, H1, I1, r1, q1⟩ => ?_)
  have hst : PO X (some (.UnaryOp .USub (.Constant (.int 1) k p1) p2)) (tPart (tUn (rU fun i => .int (-i)) (tC (.int 1)))) := po_some (pe_un un_neg pe_int)
  refine wpAny_Slice (thn (po_none.run pins s1 σ H1 (fun o H2 => o = none ∧ H2 = H1) I1 ⟨rfl, rfl⟩) fun vl s2 ⟨l, H2, I2, pl, el, e2⟩ => ?_)
  subst el e2
  refine thn (po_none.run pins s2 σ H2 (fun o H3 => o = none ∧ H3 = H2) I2 ⟨rfl, rfl⟩) fun vu s3 ⟨u, H3, I3, pu, eu, e3⟩ => ?_
  subst eu e3
  refine thn (hst.run pins s3 σ H3 (fun o H4 => o = some (-1) ∧ H4 = H3) I3 ⟨1, rfl, -1, rfl, rfl, rfl⟩) fun vs s4 ⟨o, H4, I4, ps, eo, e4⟩ => ?_
  subst eo e4
  have I5 : Inv X pins σ H4 { s4 with heap := s4.heap.push { cls := .type "slice", data := .fields #[vl, vu, vs] } } := I4.kept (t' := s4.toks) fun b ob q => Heap.get?_push_of_some _ q
  rcases q1 with ⟨a, xs, ex, hx, q⟩ | ⟨a, xs, ex, hx, q⟩
  · subst ex
    cases r1
    obtain ⟨its, r, ht, hz⟩ := I5.list hx
    have hlen := r.length
    show wpAny (model X.prog X.w) X.A (subscriptTail e (.Slice none none (some (.UnaryOp .USub (.Constant (.int 1) k p1) p2)) p3) (.ref a) (.ref s4.heap.objs.size)) (EP X pins σ Q) X.xe { s4 with heap := s4.heap.push { cls := .type "slice", data := .fields #[vl, vu, vs] } }
    refine tail_any (ops := [.ref a, .ref s4.heap.objs.size]) ht.isList.typeIs (PySem.slot_list_getitem.lookup) ?_ (by with_unfolding_all rfl)
    refine wpAny_getItem_list_slice ht.isList (Heap.IsSliceOf.new _ vl vu vs) pl pu ps (by decide) ?_ (by rw [List.size_toArray]; omega)
    rw [PySem.W.krv_pick]
    refine ⟨.ref _, _, I5.laid (t' := s4.toks) (o := .lst xs.reverse) (fun b ob q => Heap.get?_push_of_some _ q) (Nat.le_refl _) ?_, rfl, q _ (I5.hok.fresh (Nat.le_refl _))⟩
    exact ⟨by rw [List.length_reverse]; exact hz, _, 0, r.reverse, Heap.get?_push_size _ rfl⟩
  · subst ex
    cases r1
    obtain ⟨its, r, ht, hz⟩ := I5.tuple hx
    have hlen := r.length
    show wpAny (model X.prog X.w) X.A (subscriptTail e (.Slice none none (some (.UnaryOp .USub (.Constant (.int 1) k p1) p2)) p3) (.ref a) (.ref s4.heap.objs.size)) (EP X pins σ Q) X.xe { s4 with heap := s4.heap.push { cls := .type "slice", data := .fields #[vl, vu, vs] } }
    refine tail_any (ops := [.ref a, .ref s4.heap.objs.size]) ht.typeIs (PyProof.Rows.slot_tuple_getitem.lookup) ?_ (by with_unfolding_all rfl)
    refine getItem_rev ht (Heap.IsSliceOf.new _ vl vu vs) pl pu ps ?_ (by rw [List.size_toArray]; omega)
    refine ⟨.ref _, _, I5.laid (t' := s4.toks) (o := .tup xs.reverse) (fun b ob q => Heap.get?_push_of_some _ q) (Nat.le_refl _) ?_, rfl, q _ (I5.hok.fresh (Nat.le_refl _))⟩
    exact ⟨by rw [List.length_reverse]; exact hz, _, r.reverse, _, Heap.get?_push_size _ rfl, rfl, _, rfl⟩
end
end RevT
def oRev (x : Pv) (S : Sto) (Q : QV) : Prop := match x with
  | .tup xs => Q (.tup xs.reverse) S
  | x => match rdL S x with
    | some xs => Q (.lst xs.reverse) S
    | none => False
section
variable {X : Cx} {S0 : Sto} {H0 : Hp} {a : Expr} {fa : PF} {pos : Pos}
theorem pv_rev {k : Nat} {p1 p2 p3 : Pos} (ha : PV X S0 H0 a fa) : PV X S0 H0 (.Subscript a (.Slice none none (some (.UnaryOp .USub (.Constant (.int 1) k p1) p2)) p3) pos) (f1 oRev fa) := by
  have m : ∀ x S Q Q', (∀ p S', Q p S' → Q' p S') → oRev x S Q → oRev x S Q' := fun x S Q Q' h q => by
    unfold oRev at q ⊢
    split at q
    · exact h _ _ q
    · split at q
      · exact h _ _ q
      · exact q
  refine ⟨f1_mono m ha, PE.imp (RevT.pe_revA ha.pe) fun σ H Q ⟨ρ, S, re, rs, ex, q⟩ => ?_⟩
  refine ⟨ρ, S, re, rs, ex, ha.mono _ _ _ _ (fun x S1 q v H1 rv rs1 ex1 => ?_) q⟩
  unfold oRev at q
  split at q
  · obtain ⟨t, vs, e, hq, r⟩ := rv
    refine .inr ⟨t, vs, e, hq, fun p np => ?_⟩
    obtain ⟨a1, a2, a3⟩ := newT_k rs1 np r.rev
    exact q _ _ a1 a2 (ex1.trans a3)
  · split at q
    · rename_i xs e0
      obtain ⟨t, vs, e, hq, r⟩ := rdL_rep rs1 rv e0
      refine .inl ⟨t, vs, e, hq, fun p np => ?_⟩
      obtain ⟨a1, a2, a3⟩ := newL_k rs1 np r.rev
      exact q _ _ a1 a2 (ex1.trans a3)
    · exact q.elim
end
end PL

/-! Fractions: the pure values of the program's fractions are Lean's own rationals. -/
namespace PL
open PySem PySem.Spec PyProof.Rows L2

/-! ### promises -/
def SpF {α : Type} (args : α → List Pv) (pre : α → Prop) (res : α → Pv) : PSp := fun xs S Q _ => ∃ a, xs = args a ∧ pre a ∧ Q (res a) S
theorem SpF.len {α : Type} {args : α → List Pv} {pre : α → Prop} {res : α → Pv} {n : Nat} (h : ∀ a, (args a).length = n) : ∀ (xs : List Pv) (S : Sto) (Q : QV) (E : QE), SpF args pre res xs S Q E → xs.length = n := fun xs S Q E ⟨a, e, _⟩ => by rw [e]; exact h a
theorem SpF.mono {α : Type} {args : α → List Pv} {pre : α → Prop} {res : α → Pv} : ∀ (xs : List Pv) S (Q Q' : QV) (E E' : QE), (∀ p S', Q p S' → Q' p S') → (∀ C S', E C S' → E' C S') → SpF args pre res xs S Q E → SpF args pre res xs S Q' E' := fun xs S Q Q' E E' h _ ⟨a, e, p, q⟩ => ⟨a, e, p, h _ _ q⟩
def SpS {α : Type} (args : α → List Pv) (pre : α → Sto → Prop) (post : α → Sto → Pv → Sto → Prop) : PSp := fun xs S Q _ => ∃ a, xs = args a ∧ pre a S ∧ ∀ p S', post a S p S' → Q p S'
theorem SpS.len {α : Type} {args : α → List Pv} {pre : α → Sto → Prop} {post : α → Sto → Pv → Sto → Prop} {n : Nat} (h : ∀ a, (args a).length = n) : ∀ (xs : List Pv) (S : Sto) (Q : QV) (E : QE), SpS args pre post xs S Q E → xs.length = n := fun xs S Q E ⟨a, e, _⟩ => by rw [e]; exact h a
theorem SpS.mono {α : Type} {args : α → List Pv} {pre : α → Sto → Prop} {post : α → Sto → Pv → Sto → Prop} : ∀ (xs : List Pv) S (Q Q' : QV) (E E' : QE), (∀ p S', Q p S' → Q' p S') → (∀ C S', E C S' → E' C S') → SpS args pre post xs S Q E → SpS args pre post xs S Q' E' := fun xs S Q Q' E E' h _ ⟨a, e, p, q⟩ => ⟨a, e, p, fun p S' z => h _ _ (q p S' z)⟩
abbrev endD (Q : QV) : Ends' := { nx := fun _ S => Out Q .non S, rt := Out Q }
theorem SpF.ex {α : Type} {args : α → List Pv} {pre : α → Prop} {res : α → Pv} {b : PFS} {n : Nat} (h : ∀ a S (Q : QV), pre a → Q (res a) S → b (endD Q) (st0 n (args a)) S) {xs : List Pv} {S0 : Sto} {Q : QV} {Ep : QE} (q : SpF args pre res xs S0 Q Ep) : b (endD Q) (st0 n xs) S0 := by
  obtain ⟨a, e, p, q⟩ := q
  rw [e]
  exact h a S0 Q p q
theorem SpS.ex {α : Type} {args : α → List Pv} {pre : α → Sto → Prop} {post : α → Sto → Pv → Sto → Prop} {b : PFS} {n : Nat} (h : ∀ a S (Q : QV), pre a S → (∀ p S', post a S p S' → Q p S') → b (endD Q) (st0 n (args a)) S) {xs : List Pv} {S0 : Sto} {Q : QV} {Ep : QE} (q : SpS args pre post xs S0 Q Ep) : b (endD Q) (st0 n xs) S0 := by
  obtain ⟨a, e, p, q⟩ := q
  rw [e]
  exact h a S0 Q p q
/-- reads the store, does not change it -/
def SpG {α : Type} (args : α → List Pv) (pre : α → Sto → Prop) (res : α → Sto → Pv) : PSp := fun xs S Q _ => ∃ a, xs = args a ∧ pre a S ∧ Q (res a S) S
theorem SpG.len {α : Type} {args : α → List Pv} {pre : α → Sto → Prop} {res : α → Sto → Pv} {n : Nat} (h : ∀ a, (args a).length = n) : ∀ (xs : List Pv) (S : Sto) (Q : QV) (E : QE), SpG args pre res xs S Q E → xs.length = n := fun xs S Q E ⟨a, e, _⟩ => by rw [e]; exact h a
theorem SpG.mono {α : Type} {args : α → List Pv} {pre : α → Sto → Prop} {res : α → Sto → Pv} : ∀ (xs : List Pv) S (Q Q' : QV) (E E' : QE), (∀ p S', Q p S' → Q' p S') → (∀ C S', E C S' → E' C S') → SpG args pre res xs S Q E → SpG args pre res xs S Q' E' := fun xs S Q Q' E E' h _ ⟨a, e, p, q⟩ => ⟨a, e, p, h _ _ q⟩
theorem SpG.ex {α : Type} {args : α → List Pv} {pre : α → Sto → Prop} {res : α → Sto → Pv} {b : PFS} {n : Nat} (h : ∀ a S (Q : QV), pre a S → Q (res a S) S → b (endD Q) (st0 n (args a)) S) {xs : List Pv} {S0 : Sto} {Q : QV} {Ep : QE} (q : SpG args pre res xs S0 Q Ep) : b (endD Q) (st0 n xs) S0 := by
  obtain ⟨a, e, p, q⟩ := q
  rw [e]
  exact h a S0 Q p q
/-- a test: its answer is given by name, that no one computes it -/
def SpB {α : Type} (args : α → List Pv) (pre : α → Sto → Prop) (res : α → Sto → Bool) : PSp := fun xs S Q _ => ∃ a, xs = args a ∧ pre a S ∧ ∀ b, b = res a S → Q (.bl b) S
theorem SpB.len {α : Type} {args : α → List Pv} {pre : α → Sto → Prop} {res : α → Sto → Bool} {n : Nat} (h : ∀ a, (args a).length = n) : ∀ (xs : List Pv) (S : Sto) (Q : QV) (E : QE), SpB args pre res xs S Q E → xs.length = n := fun xs S Q E ⟨a, e, _⟩ => by rw [e]; exact h a
theorem SpB.mono {α : Type} {args : α → List Pv} {pre : α → Sto → Prop} {res : α → Sto → Bool} : ∀ (xs : List Pv) S (Q Q' : QV) (E E' : QE), (∀ p S', Q p S' → Q' p S') → (∀ C S', E C S' → E' C S') → SpB args pre res xs S Q E → SpB args pre res xs S Q' E' := fun xs S Q Q' E E' h _ ⟨a, e, p, q⟩ => ⟨a, e, p, fun b z => h _ _ (q b z)⟩
theorem SpB.ex {α : Type} {args : α → List Pv} {pre : α → Sto → Prop} {res : α → Sto → Bool} {b : PFS} {n : Nat} (h : ∀ a S (Q : QV), pre a S → Q (.bl (res a S)) S → b (endD Q) (st0 n (args a)) S) {xs : List Pv} {S0 : Sto} {Q : QV} {Ep : QE} (q : SpB args pre res xs S0 Q Ep) : b (endD Q) (st0 n xs) S0 := by
  obtain ⟨a, e, p, q⟩ := q
  rw [e]
  exact h a S0 Q p (q _ rfl)

theorem lz {n : Nat} (h : Nat.ble n 1000 = true) : n ≤ sizeLine := Nat.le_trans (Nat.le_of_ble_eq_true h) (by decide)
theorem lz' {n : Nat} (h : Nat.ble n 1000 = true) : n < sizeLine := Nat.lt_of_le_of_lt (Nat.le_of_ble_eq_true h) (by decide)
/-! ### sizes -/
def szI (n : Nat) (i : Int) : Prop := i.natAbs < 2 ^ n
theorem szI.up {n m : Nat} {i : Int} (h : szI n i) (l : n ≤ m) : szI m i := Nat.lt_of_lt_of_le h (Nat.pow_le_pow_right (by decide) l)
theorem szI.mul {n m : Nat} {i j : Int} (h : szI n i) (h' : szI m j) : szI (n + m) (i * j) := by
  unfold szI at *
  rw [Int.natAbs_mul, Nat.pow_add]
  exact Nat.mul_lt_mul'' h h'
theorem szI.add {n m : Nat} {i j : Int} (h : szI n i) (h' : szI m j) : szI (max n m + 1) (i + j) := by
  have a := h.up (Nat.le_max_left n m)
  have b := h'.up (Nat.le_max_right n m)
  unfold szI at *
  rw [Nat.pow_succ]
  omega
theorem szI.sub {n m : Nat} {i j : Int} (h : szI n i) (h' : szI m j) : szI (max n m + 1) (i - j) := by
  have a := h.up (Nat.le_max_left n m)
  have b := h'.up (Nat.le_max_right n m)
  unfold szI at *
  rw [Nat.pow_succ]
  omega
theorem mulOk {n m : Nat} {i j : Int} (h : szI n i) (h' : szI m j) (l : n + m ≤ 900000) : IntMulOk i j :=
  (wide_mul (h.up (Nat.le_succ n)) (h'.up (Nat.le_succ m)) (Nat.succ_pos n) (Nat.succ_pos m) (by omega)).ok
theorem log_lt {n : Nat} {i : Int} (h : szI n i) (l : n < 9000) : i.natAbs.log2 < 9000 := by
  have h' := h.up (Nat.le_succ n)
  exact Nat.lt_of_lt_of_le (PySem.Flt.log2_lt_of (Nat.succ_pos n) h') (by omega)
/-- a fraction as a value -/
def fr (q : Rat) : Pv := .tup [.int q.num, .int (q.den : Int)]
/-- at most n bits above and below -/
def Sz (n : Nat) (q : Rat) : Prop := szI n q.num ∧ szI n (q.den : Int)
theorem Sz.up {n m : Nat} {q : Rat} (h : Sz n q) (l : n ≤ m) : Sz m q := ⟨h.1.up l, h.2.up l⟩
theorem divInt_sz {n : Nat} {t b : Int} (hb : b ≠ 0) (ht : szI n t) (h : szI n b) : Sz n (Rat.divInt t b) := by
  have hg : 0 < b.gcd t := Int.gcd_pos_of_ne_zero_left _ hb
  refine ⟨?_, ?_⟩
  · unfold szI at *
    rw [Rat.num_divInt]
    have e : (b.sign * t / ↑(b.gcd t)).natAbs ≤ (b.sign * t).natAbs := Int.natAbs_ediv_le_natAbs _ _
    have e2 : (b.sign * t).natAbs = t.natAbs := by
      rw [Int.natAbs_mul, Int.natAbs_sign_of_ne_zero hb, Nat.one_mul]
    omega
  · unfold szI at *
    rw [Rat.den_divInt, if_neg hb]
    have e : b.natAbs / b.gcd t ≤ b.natAbs := Nat.div_le_self _ _
    simp only [Int.natAbs_natCast]
    omega
theorem add_eq (p q : Rat) : p + q = Rat.divInt (p.num * q.den + q.num * p.den) (p.den * q.den) := by
  have h1 : (p.den : Int) ≠ 0 := by have := p.den_nz; omega
  have h2 : (q.den : Int) ≠ 0 := by have := q.den_nz; omega
  have e := Rat.divInt_add_divInt p.num q.num h1 h2
  rw [Rat.num_divInt_den, Rat.num_divInt_den] at e
  exact e
theorem sub_eq (p q : Rat) : p - q = Rat.divInt (p.num * q.den - q.num * p.den) (p.den * q.den) := by
  have h1 : (p.den : Int) ≠ 0 := by have := p.den_nz; omega
  have h2 : (q.den : Int) ≠ 0 := by have := q.den_nz; omega
  have e := Rat.divInt_sub_divInt p.num q.num h1 h2
  rw [Rat.num_divInt_den, Rat.num_divInt_den] at e
  exact e
theorem mul_eq (p q : Rat) : p * q = Rat.divInt (p.num * q.num) (p.den * q.den) := by
  have e := Rat.divInt_mul_divInt p.num q.num (d₁ := p.den) (d₂ := q.den)
  rw [Rat.num_divInt_den, Rat.num_divInt_den] at e
  exact e
theorem den_ne (q : Rat) : (q.den : Int) ≠ 0 := by have := q.den_nz; omega
theorem den_pos (q : Rat) : (0 : Int) < q.den := by have := q.den_nz; omega
theorem den2_ne (p q : Rat) : (p.den : Int) * q.den ≠ 0 := Int.mul_ne_zero (den_ne p) (den_ne q)
theorem Sz.add {n m : Nat} {p q : Rat} (h : Sz n p) (h' : Sz m q) : Sz (n + m + 1) (p + q) := by
  rw [add_eq]
  refine divInt_sz (den2_ne p q) ?_ ((h.2.mul h'.2).up (by omega))
  exact ((h.1.mul h'.2).add (h'.1.mul h.2)).up (by omega)
theorem Sz.sub {n m : Nat} {p q : Rat} (h : Sz n p) (h' : Sz m q) : Sz (n + m + 1) (p - q) := by
  rw [sub_eq]
  refine divInt_sz (den2_ne p q) ?_ ((h.2.mul h'.2).up (by omega))
  exact ((h.1.mul h'.2).sub (h'.1.mul h.2)).up (by omega)
theorem Sz.mul {n m : Nat} {p q : Rat} (h : Sz n p) (h' : Sz m q) : Sz (n + m) (p * q) := by
  rw [mul_eq]
  exact divInt_sz (den2_ne p q) (h.1.mul h'.1) (h.2.mul h'.2)

/-! ### whole numbers -/
theorem absP (i : Int) : (if i < 0 then -i else i) = (i.natAbs : Int) := by split <;> omega
theorem fmod_nat (x y : Nat) : Int.fmod (x : Int) (y : Int) = ((x % y : Nat) : Int) := by
  rw [Int.fmod_eq_emod_of_nonneg _ (by omega)]; rfl
theorem low_num {t b : Int} (hb : b ≠ 0) : t.fdiv (if b < 0 then 0 - (Int.gcd t b : Int) else (Int.gcd t b : Int)) = (Rat.divInt t b).num ∧ b.fdiv (if b < 0 then 0 - (Int.gcd t b : Int) else (Int.gcd t b : Int)) = ((Rat.divInt t b).den : Int) := by
  have hg : (0 : Int) < (Int.gcd t b : Int) := by
    have : 0 < Int.gcd t b := Int.gcd_pos_of_ne_zero_right _ hb
    omega
  have d1 : (Int.gcd t b : Int) ∣ t := Int.gcd_dvd_left t b
  have d2 : (Int.gcd t b : Int) ∣ b := Int.gcd_dvd_right t b
  rw [Rat.num_divInt, Rat.den_divInt, if_neg hb, Int.gcd_comm b t]
  generalize hgg : (Int.gcd t b) = g at *
  obtain ⟨t', rfl⟩ := d1
  obtain ⟨b', rfl⟩ := d2
  have hg0 : (g : Int) ≠ 0 := by omega
  have hb' : b' ≠ 0 := by rintro rfl; simp at hb
  have e1 : ((g : Int) * b').natAbs / g = b'.natAbs := by
    rw [Int.natAbs_mul, Int.natAbs_natCast, Nat.mul_div_cancel_left _ (by omega)]
  rw [e1]
  by_cases hn : (g : Int) * b' < 0
  · have hb1 : b' < 0 := by
      apply Decidable.byContradiction
      intro h
      have : 0 ≤ (g : Int) * b' := Int.mul_nonneg (by omega) (by omega)
      omega
    rw [if_pos hn, Int.sign_eq_neg_one_of_neg hn]
    have f1 : Int.fdiv ((g : Int) * t') (0 - g) = - t' := by
      rw [show ((g : Int) * t') = (-t') * (0 - g) by rw [Int.zero_sub, Int.neg_mul_neg, Int.mul_comm]]
      exact Int.mul_fdiv_cancel _ (by omega)
    have f2 : Int.fdiv ((g : Int) * b') (0 - g) = - b' := by
      rw [show ((g : Int) * b') = (-b') * (0 - g) by rw [Int.zero_sub, Int.neg_mul_neg, Int.mul_comm]]
      exact Int.mul_fdiv_cancel _ (by omega)
    rw [f1, f2]
    refine ⟨?_, by omega⟩
    rw [show (-1 : Int) * (g * t') = g * (-t') by rw [Int.neg_one_mul, Int.mul_neg], Int.mul_ediv_cancel_left _ hg0]
  · have hb1 : 0 < b' := by
      apply Decidable.byContradiction
      intro h
      have h3 : b' < 0 := by omega
      exact hn (Int.mul_neg_of_pos_of_neg hg h3)
    have hp : 0 < (g : Int) * b' := Int.mul_pos hg hb1
    rw [if_neg hn, Int.sign_eq_one_of_pos hp]
    have f1 : Int.fdiv ((g : Int) * t') g = t' := by rw [Int.mul_comm]; exact Int.mul_fdiv_cancel _ hg0
    have f2 : Int.fdiv ((g : Int) * b') g = b' := by rw [Int.mul_comm]; exact Int.mul_fdiv_cancel _ hg0
    rw [f1, f2]
    refine ⟨?_, by omega⟩
    rw [Int.one_mul, Int.mul_ediv_cancel_left _ hg0]
end PL
namespace PL
open PySem PySem.Spec PyProof.Rows L2
def absR (q : Rat) : Rat := if q < 0 then -q else q
theorem num_neg_iff (q : Rat) : q < 0 ↔ q.num < 0 := by
  rw [Rat.lt_iff]; simp
theorem fr_abs (q : Rat) : fr (absR q) = .tup [.int (q.num.natAbs : Int), .int (q.den : Int)] := by
  unfold absR fr
  split
  · rename_i h
    have h' : q.num < 0 := (num_neg_iff q).mp h
    show Pv.tup [.int (-q.num), .int (q.den : Int)] = _
    rw [show -q.num = (q.num.natAbs : Int) by omega]
  · rename_i h
    have h' : ¬ q.num < 0 := fun e => h ((num_neg_iff q).mpr e)
    rw [show q.num = (q.num.natAbs : Int) by omega]
    simp
theorem Sz.abs {n : Nat} {q : Rat} (h : Sz n q) : Sz n (absR q) := by
  unfold absR
  split
  · refine ⟨?_, h.2⟩
    have h1 := h.1
    unfold szI at *
    show (-q.num).natAbs < _
    rw [Int.natAbs_neg]; exact h1
  · exact h
end PL
namespace PL
open PySem PySem.Spec PyProof.Rows L2
/-! ### things of any kind -/
mutual
/-- nothing of the store in it, as far as tuples go -/
def tyD : Pv → Bool
  | .tup xs => tyDs xs
  | .ref _ => false
  | .ty _ => false
  | .non => true | .bl _ => true | .int _ => true | .str _ => true | .lst _ => true | .dct _ _ => true | .scr _ => true
def tyDs : List Pv → Bool
  | [] => true
  | x :: xs => tyD x && tyDs xs
end
def isIntP : Pv → Bool
  | .int _ => true
  | _ => false
def frac2 : Pv → Pv → Bool
  | .int t, .int b => decide (0 < b) && decide (Int.gcd t b = 1)
  | _, _ => false
def fracP : Pv → Bool
  | .tup xs => match xs with
    | [a, b] => frac2 a b
    | _ => false
  | _ => false
def pointP : Pv → Bool
  | .tup xs => match xs with
    | [a, b] => fracP a && fracP b
    | _ => false
  | _ => false
theorem fracP_fr (q : Rat) : fracP (fr q) = true := by
  show (decide (0 < (q.den : Int)) && decide (Int.gcd q.num q.den = 1)) = true
  rw [Bool.and_eq_true]
  exact ⟨decide_eq_true (den_pos q), decide_eq_true q.reduced⟩
theorem tyD_fr (q : Rat) : tyD (fr q) = true := rfl
/-- a point -/
def pt (p : Rat × Rat) : Pv := .tup [fr p.1, fr p.2]
theorem pointP_pt (p : Rat × Rat) : pointP (pt p) = true := by
  show (fracP (fr p.1) && fracP (fr p.2)) = true
  rw [fracP_fr, fracP_fr]; rfl
theorem tyD_pt (p : Rat × Rat) : tyD (pt p) = true := rfl
theorem frac_is {x : Pv} (h : fracP x = true) : ∃ q : Rat, x = fr q := by
  unfold fracP at h
  split at h
  · split at h
    · rename_i a b
      unfold frac2 at h
      split at h
      · rename_i t b
        rw [Bool.and_eq_true, decide_eq_true_eq, decide_eq_true_eq] at h
        obtain ⟨n, rfl⟩ : ∃ n : Nat, b = (n : Int) := ⟨b.toNat, by omega⟩
        exact ⟨⟨t, n, by omega, h.2⟩, rfl⟩
      · cases h
    · cases h
  · cases h
theorem point_is {x : Pv} (h : pointP x = true) : ∃ p : Rat × Rat, x = pt p := by
  unfold pointP at h
  split at h
  · split at h
    · rw [Bool.and_eq_true] at h
      obtain ⟨p, rfl⟩ := frac_is h.1
      obtain ⟨q, rfl⟩ := frac_is h.2
      exact ⟨(p, q), rfl⟩
    · cases h
  · cases h
end PL
namespace PL
open PySem PySem.Spec PyProof.Rows L2
/-! ### the law's own drawing: a list of three numbers that is changed -/
theorem at0 (x : Pv) (l : List Pv) : atI (x :: l) 0 = some x := by
  unfold atI ixN
  simp only [List.length_cons]
  rw [if_pos (by decide), if_pos (by omega)]
  rfl
theorem at1 (x y : Pv) (l : List Pv) : atI (x :: y :: l) 1 = some y := by
  unfold atI ixN
  simp only [List.length_cons]
  rw [if_pos (by decide), if_pos (by omega)]
  rfl
theorem at2 (x y z : Pv) (l : List Pv) : atI (x :: y :: z :: l) 2 = some z := by
  unfold atI ixN
  simp only [List.length_cons]
  rw [if_pos (by decide), if_pos (by omega)]
  rfl
theorem ix3_0 : ixN 3 0 = some 0 := rfl
theorem ix3_1 : ixN 3 1 = some 1 := rfl
theorem ix3_2 : ixN 3 2 = some 2 := rfl
def St3 (m : Mo) : Prop := ∃ d u c : Int, m = .lst [.int d, .int u, .int c] ∧ 0 ≤ d ∧ 0 ≤ u ∧ u < 2 ^ 40
theorem fmod_bd {i j : Int} (h : 0 < j) : 0 ≤ i.fmod j ∧ i.fmod j < j := by
  rw [Int.fmod_eq_emod_of_nonneg _ (by omega)]
  exact ⟨Int.emod_nonneg _ (by omega), Int.emod_lt_of_pos _ h⟩
theorem fdiv_nn {i j : Int} (hi : 0 ≤ i) (h : 0 < j) : 0 ≤ i.fdiv j := Int.fdiv_nonneg hi (by omega)
theorem mulOk40 {i j : Int} (hi : 0 ≤ i) (h : i < 2 ^ 40) (hj : 0 ≤ j) (h' : j < 2 ^ 40) : IntMulOk i j := mulOk (n := 40) (m := 40) (by unfold szI; omega) (by unfold szI; omega) (by decide)
end PL
namespace PL
open PySem PySem.Spec PyProof.Rows L2
theorem at_of {xs : List Pv} {r : Int} (h0 : 0 ≤ r) (h : r < xs.length) : ∃ p, atI xs r = some p ∧ p ∈ xs := by
  obtain ⟨n, rfl⟩ : ∃ n : Nat, r = (n : Int) := ⟨r.toNat, by omega⟩
  have hn : n < xs.length := by omega
  exact ⟨xs[n], atI_nat (List.getElem?_eq_getElem hn), List.getElem_mem hn⟩
/-- an item of a written list of numbers -/
theorem at_ints {ns : List Int} {r : Int} {P : Int → Prop} (h0 : 0 ≤ r) (h : r < ns.length) (hP : ∀ n ∈ ns, P n) : ∃ n, atI (ns.map Pv.int) r = some (.int n) ∧ P n := by
  obtain ⟨p, e, hp⟩ := at_of (xs := ns.map Pv.int) h0 (by simpa using h)
  obtain ⟨n, hn, rfl⟩ := List.mem_map.mp hp
  exact ⟨n, e, hP n hn⟩
end PL

/-! Texts of data, and how long they are; == of data. -/
namespace PL
open PySem PySem.Spec PyProof.Rows L2
/-- data whose text has at most n signs, at most d deep -/
def Sh (n d : Nat) (p : Pv) : Prop := isD p = true ∧ (toD p).showable = true ∧ (toD p).shown.length ≤ n ∧ (toD p).depth ≤ d
def Shs (n d : Nat) (ps : List Pv) : Prop := isDs ps = true ∧ PyData.showableAll (toDs ps) = true ∧ piled (PyData.shownAll (toDs ps)) ≤ n ∧ PyData.depthAll (toDs ps) ≤ d
theorem Sh.up {n m d e : Nat} {p : Pv} (h : Sh n d p) (l : n ≤ m) (l' : d ≤ e) : Sh m e p := ⟨h.1, h.2.1, Nat.le_trans h.2.2.1 l, Nat.le_trans h.2.2.2 l'⟩
theorem Shs.nil {d : Nat} : Shs 0 d [] := ⟨rfl, rfl, Nat.le_refl 0, Nat.zero_le _⟩
theorem Shs.cons {n m d : Nat} {p : Pv} {ps : List Pv} (h : Sh n d p) (h' : Shs m d ps) : Shs (n + 2 + m) d (p :: ps) := by
  obtain ⟨a1, a2, a3, a4⟩ := h
  obtain ⟨b1, b2, b3, b4⟩ := h'
  refine ⟨?_, ?_, ?_, ?_⟩
  · show (isD p && isDs ps) = true
    rw [a1, b1]; rfl
  · show (PyData.showable (toD p) && PyData.showableAll (toDs ps)) = true
    rw [a2, b2]; rfl
  · show piled (PyData.shown (toD p) :: PyData.shownAll (toDs ps)) ≤ _
    rw [piled_cons]; omega
  · show max (PyData.depth (toD p)) (PyData.depthAll (toDs ps)) ≤ d
    omega
theorem Shs.map {α : Type} {f : α → Pv} {n d : Nat} : ∀ {xs : List α}, (∀ x ∈ xs, Sh n d (f x)) → Shs ((n + 2) * xs.length) d (xs.map f)
  | [], _ => Shs.nil
  | x :: xs, h => by
    have a := Shs.cons (h x List.mem_cons_self) (Shs.map fun y hy => h y (List.mem_cons_of_mem _ hy))
    rw [List.length_cons, Nat.mul_succ, Nat.add_comm]
    exact a
theorem tupText_le (ts : List Str) : (tupleText ts).length ≤ piled ts + 3 := by
  unfold tupleText
  rw [Str.length_append, Str.length_append]
  have h1 : (("(" : Str)).length = 1 := rfl
  have h2 : ((if (ts.length == 1) = true then ",)" else ")" : String) : Str).length ≤ 2 := by split <;> decide
  rw [h1]
  cases ts with
  | nil => 
    have h3 : (Str.join ", " []).length = 0 := rfl
    rw [h3, piled_nil]; omega
  | cons t ts =>
    have h3 := join_length_add (t :: ts) (by simp)
    omega
theorem textFrom_le : ∀ (ts : List Str) (k : Nat) (acc : Str), (textFrom k acc ts).length ≤ acc.length + piled ts
  | [], k, acc => by show acc.length ≤ _; omega
  | t :: ts, k, acc => by
    show (textFrom (k + 1) (acc ++ (if k > 0 then ", " else "" : String) ++ t) ts).length ≤ _
    have h := textFrom_le ts (k + 1) (acc ++ (if k > 0 then ", " else "" : String) ++ t)
    have h2 : ((if k > 0 then ", " else "" : String) : Str).length ≤ 2 := by split <;> decide
    rw [Str.length_append, Str.length_append] at h
    rw [piled_cons]
    omega
theorem listText_le (ts : List Str) : (listText ts).length ≤ piled ts + 2 := by
  unfold listText
  rw [Str.length_append]
  have h := textFrom_le ts 0 "["
  have h1 : (("[" : Str)).length = 1 := rfl
  have h2 : (("]" : Str)).length = 1 := rfl
  omega
theorem Sh.tup {n d : Nat} {xs : List Pv} (h : Shs n d xs) : Sh (n + 3) (d + 1) (.tup xs) :=
  ⟨h.1, h.2.1, Nat.le_trans (tupText_le _) (Nat.add_le_add_right h.2.2.1 3), Nat.succ_le_succ h.2.2.2⟩
theorem Sh.lst {n d : Nat} {xs : List Pv} (h : Shs n d xs) : Sh (n + 3) (d + 1) (.lst xs) :=
  ⟨h.1, h.2.1, Nat.le_trans (Nat.le_trans (listText_le _) (Nat.le_succ _)) (Nat.add_le_add_right h.2.2.1 3), Nat.succ_le_succ h.2.2.2⟩
theorem Sh.bl (b : Bool) {d : Nat} : Sh 5 d (.bl b) := ⟨rfl, rfl, by cases b <;> decide, Nat.zero_le _⟩
theorem Sh.non {d : Nat} : Sh 5 d .non := ⟨rfl, rfl, by decide, Nat.zero_le _⟩
theorem int_len {n : Nat} {i : Int} (h : szI n i) : (Str.ofString (toString i)).length ≤ n + 2 := by
  rw [PySem.ofString_length]
  have h' : i.natAbs.log2 < n + 1 := PySem.Flt.log2_lt_of (Nat.succ_pos n) (h.up (Nat.le_succ n))
  exact int_text_length_le (Nat.succ_pos n) h'
theorem Sh.int {n d : Nat} {i : Int} (h : szI n i) (l : n ≤ 1900) : Sh (n + 2) d (.int i) := by
  refine ⟨rfl, ?_, int_len h, Nat.zero_le _⟩
  have h' := (h.up (Nat.le_succ n))
  exact decide_eq_true (Nat.lt_of_lt_of_le (PySem.Flt.log2_lt_of (Nat.succ_pos n) h') (by omega))
theorem Sh.fr {n d : Nat} {q : Rat} (h : Sz n q) (l : n ≤ 1900) : Sh (2 * n + 11) (d + 1) (fr q) :=
  (Sh.tup (Shs.cons (Sh.int (d := d) h.1 l) (Shs.cons (Sh.int h.2 l) Shs.nil))).up (by omega) (Nat.le_refl _)
theorem Sh.pt {n d : Nat} {q : Rat × Rat} (h : Sz n q.1 ∧ Sz n q.2) (l : n ≤ 1900) : Sh (4 * n + 29) (d + 2) (pt q) :=
  (Sh.tup (Shs.cons (Sh.fr (d := d) h.1 l) (Shs.cons (Sh.fr h.2 l) Shs.nil))).up (by omega) (Nat.le_refl _)
theorem Sh.ok {n d : Nat} {p : Pv} (h : Sh n d p) (l : n ≤ 16000000) (l' : d ≤ 60) : okR p := ⟨by rw [h.1]; rfl, h.2.1, Nat.le_trans h.2.2.2 l', Nat.le_trans h.2.2.1 (Nat.le_trans l (by decide))⟩

/-! ### == of data -/
mutual
theorem eqv_refl : ∀ p : Pv, isD p = true → PyData.eqv (toD p) (toD p) = true
  | .non, _ => rfl
  | .bl b, _ => by show (b == b) = true; simp
  | .int i, _ => by show (i == i) = true; simp
  | .str x, _ => by show (x == x) = true; simp
  | .tup xs, h => eqvs_refl xs h
  | .lst xs, h => eqvs_refl xs h
  | .scr xs, h => eqvs_refl xs h
  | .dct _ _, h => by cases h
  | .ref _, h => by cases h
  | .ty _, h => by cases h
theorem eqvs_refl : ∀ ps : List Pv, isDs ps = true → PyData.eqvAll (toDs ps) (toDs ps) = true
  | [], _ => rfl
  | p :: ps, h => by
    have h' : isD p = true ∧ isDs ps = true := by simpa [isDs] using h
    show (PyData.eqv (toD p) (toD p) && PyData.eqvAll (toDs ps) (toDs ps)) = true
    rw [eqv_refl p h'.1, eqvs_refl ps h'.2]; rfl
end
theorem eqv_fr (p q : Rat) : PyData.eqv (toD (fr p)) (toD (fr q)) = decide (p = q) := by
  show ((p.num == q.num) && (((p.den : Int) == (q.den : Int)) && true)) = _
  rw [Bool.and_true, Bool.eq_iff_iff]
  simp only [Bool.and_eq_true, beq_iff_eq, decide_eq_true_eq]
  constructor
  · rintro ⟨h1, h2⟩
    exact Rat.ext h1 (by omega)
  · rintro rfl
    exact ⟨rfl, rfl⟩
theorem eqv_pt (p q : Rat × Rat) : PyData.eqv (toD (pt p)) (toD (pt q)) = decide (p = q) := by
  show (PyData.eqv (toD (fr p.1)) (toD (fr q.1)) && (PyData.eqv (toD (fr p.2)) (toD (fr q.2)) && true)) = _
  rw [eqv_fr, eqv_fr, Bool.and_true, Bool.eq_iff_iff]
  simp only [Bool.and_eq_true, decide_eq_true_eq]
  constructor
  · rintro ⟨h1, h2⟩
    exact Prod.ext h1 h2
  · rintro rfl
    exact ⟨rfl, rfl⟩
theorem okD_fr (q : Rat) : okD (fr q) = true := by
  unfold okD; rfl
end PL
namespace PL
open PySem PySem.Spec PyProof.Rows L2
/-! ### loops, the store -/
theorem forW_ind {gd : Sto → Prop} {t : Tg} {b : PFS} {D : Ends'} {P : Pv → Prop} (I : Env' → Sto → Prop) : ∀ {its : List Pv} {ρ : Env'} {S : Sto}, (∀ x ∈ its, P x) → I ρ S → (∀ ρ S, I ρ S → gd S ∧ D.nx ρ S) →
    (∀ x, P x → ∀ (k : Env' → Sto → Prop), (∀ ρ S, I ρ S → k ρ S) → ∀ ρ S, I ρ S → gd S ∧ match bindT S t x ρ with | some ρ' => b { nx := k, rt := D.rt, bk := D.nx, ct := k } ρ' S | none => False) → forW gd t b D its ρ S
  | [], ρ, S, _, h0, fin, _ => fin ρ S h0
  | x :: xs, ρ, S, hP, h0, fin, step => step x (hP x List.mem_cons_self) (forW gd t b D xs) (fun ρ' S' h => forW_ind I (fun y hy => hP y (List.mem_cons_of_mem _ hy)) h fin step) ρ S h0
theorem rng_mem {n : Int} {x : Pv} (h : x ∈ rngP 0 n) : ∃ k : Nat, x = .int k := by
  unfold rngP at h
  obtain ⟨k, _, e⟩ := List.mem_map.mp h
  exact ⟨k, by rw [← e]; simp⟩
@[simp] theorem ckL_put {S : Sto} {a : Addr} {xs : List Pv} : ckL (put S a (.lst xs)) (.ref a) = true := by simp [ckL, rdL]
@[simp] theorem rdL_put {S : Sto} {a : Addr} {xs : List Pv} : rdL (put S a (.lst xs)) (.ref a) = some xs := by simp [rdL]
@[simp] theorem rdM_put {S : Sto} {a : Addr} {xs : List Pv} : rdM (put S a (.lst xs)) (.ref a) = some xs := by simp [rdM]
@[simp] theorem top_put {S : Sto} {a : Addr} {xs : List Pv} : top (put S a (.lst xs)) (.ref a) = .lst xs := by simp [top]
theorem app_i {S : Sto} {a : Addr} {xs : List Pv} {p : Pv} {Q : QV} (h : S a = some (.lst xs)) (l : xs.length < sizeLine) (q : Q .non (put S a (.lst (xs ++ [p])))) : oAppend (.ref a) [p] S Q := by
  unfold oAppend
  show match S a with | some (.lst xs) => xs.length < sizeLine ∧ Q .non (put S a (.lst (xs ++ [p]))) | _ => False
  rw [h]
  exact ⟨l, q⟩
theorem app_w {S : Sto} {a : Addr} {xs ys : List Pv} {p : Pv} {Q : QV} (h : S a = some (.lst xs)) (l : xs.length < sizeLine) (e : xs ++ [p] = ys) (q : ∀ S', S' a = some (.lst ys) → (∀ b, b ≠ a → S' b = S b) → Q .non S') : oAppend (.ref a) [p] S Q := app_i h l (q _ (by rw [e]; exact put_same) fun b hb => put_ne hb)
theorem ix_i {S : Sto} {a : Addr} {xs : List Pv} {i : Int} {p : Pv} {Q : QV} (h : S a = some (.lst xs)) (e : atI xs i = some p) (q : Q p S) : oIx (.ref a) (.int i) S Q := by
  show match rdL S (.ref a) with | some xs => (match atI xs i with | some p => Q p S | none => False) | none => False
  have e0 : rdL S (.ref a) = some xs := by simp [rdL, h]
  rw [e0]
  show match atI xs i with | some p => Q p S | none => False
  rw [e]
  exact q
/-- a test that is known -/
theorem cnd_t {b : Bool} {p q : Prop} (e : b = true) (h : p) : cnd b p q := by rw [e]; exact h
theorem cnd_f {b : Bool} {p q : Prop} (e : b = false) (h : q) : cnd b p q := by rw [e]; exact h
/-! ### amounts -/
theorem absR_sub (a b : Rat) : absR (a - b) = absR (b - a) := by unfold absR; grind
theorem absR_tri (a b c : Rat) : absR (a - c) ≤ absR (a - b) + absR (b - c) := by unfold absR; grind
theorem absR_nn (a : Rat) : 0 ≤ absR a := by unfold absR; grind
theorem absR_zero (a b : Rat) : absR (a - b) = 0 ↔ a = b := by unfold absR; grind
end PL
namespace PL
open PySem PySem.Spec PyProof.Rows L2
/-! ### lists told by a rule -/
/-- S' has what S has -/
abbrev Has (S S' : Sto) : Prop := ∀ b m, S b = some m → S' b = some m
theorem Has.put {S : Sto} {D : Addr} {m : Mo} (h : S D = none) : Has S (put S D m) := fun b n e => by
  rw [put_ne (fun z => by rw [z, h] at e; cases e)]; exact e
theorem lcW_pure {α : Type} {gd : Sto → Prop} {t : Tg} {tt : PFB} {te : PF} {ρ : Env'} {D : Addr} {Q : List Pv → Sto → Prop} {S : Sto} (g : α → Pv) (c : α → Bool) (f : α → Pv) (hD : S D = none) (hg : ∀ S', Has S S' → gd S') : ∀ (xs : List α) (acc : List Pv), acc.length + xs.length ≤ sizeLine →
    (∀ x ∈ xs, ∀ S', Has S S' → ∃ ρ2, bindT S' t (g x) ρ = some ρ2 ∧ (∀ kk : Bool → Sto → Prop, kk (c x) S' → tt ρ2 S' kk) ∧ (c x = true → ∀ k : QV, k (f x) S' → te ρ2 S' k)) → Q (acc ++ (xs.filter c).map f) S → lcW gd t tt te ρ D Q (xs.map g) acc S
  | [], acc, _, _, q => ⟨hg _ (Has.put hD), by simpa using q⟩
  | x :: xs, acc, l, h, q => by
    have l' : acc.length + (xs.length + 1) ≤ sizeLine := l
    refine ⟨hg _ (Has.put hD), ?_⟩
    obtain ⟨ρ2, e, h1, h2⟩ := h x List.mem_cons_self _ (Has.put (m := .lst acc) hD)
    rw [e]
    have hr := fun y hy => h y (List.mem_cons_of_mem x hy)
    refine h1 _ ?_
    cases hc : c x with
    | true =>
      refine h2 hc _ ⟨put_same, by omega, ?_⟩
      rw [del_put hD]
      refine lcW_pure g c f hD hg xs _ (by rw [List.length_append]; simp; omega) hr ?_
      rw [List.filter_cons, hc] at q
      simpa using q
    | false =>
      refine ⟨put_same, ?_⟩
      rw [del_put hD]
      refine lcW_pure g c f hD hg xs _ (by omega) hr ?_
      rw [List.filter_cons, hc] at q
      simpa using q
theorem lc_map {α : Type} {gd : Sto → Prop} {t : Tg} {te : PF} {ρ : Env'} {Q : List Pv → Sto → Prop} {S : Sto} {its : List Pv} (xs : List α) (g f : α → Pv) (e : its = xs.map g) (l : xs.length ≤ sizeLine) (hg : ∀ S', Has S S' → gd S') (h : ∀ x ∈ xs, ∀ S', Has S S' → ∃ ρ2, bindT S' t (g x) ρ = some ρ2 ∧ ∀ k : QV, k (f x) S' → te ρ2 S' k) (q : Q (xs.map f) S) : ∀ D, S D = none → lcW gd t fYes te ρ D Q its [] S :=
  fun D hD => by
    rw [e]
    exact lcW_pure g (fun _ => true) f hD hg xs [] (by simpa using l) (fun x hx S' hs => by
      obtain ⟨ρ2, e, h1⟩ := h x hx S' hs
      exact ⟨ρ2, e, fun kk h => h, fun _ k z => h1 k z⟩) (by rw [List.filter_eq_self.mpr (fun _ _ => rfl)]; exact q)
theorem lc_filter {α : Type} {gd : Sto → Prop} {t : Tg} {tt : PFB} {te : PF} {ρ : Env'} {Q : List Pv → Sto → Prop} {S : Sto} {its : List Pv} (xs : List α) (g : α → Pv) (c : α → Bool) (f : α → Pv) (e : its = xs.map g) (l : xs.length ≤ sizeLine) (hg : ∀ S', Has S S' → gd S')
    (h : ∀ x ∈ xs, ∀ S', Has S S' → ∃ ρ2, bindT S' t (g x) ρ = some ρ2 ∧ (∀ kk : Bool → Sto → Prop, kk (c x) S' → tt ρ2 S' kk) ∧ (c x = true → ∀ k : QV, k (f x) S' → te ρ2 S' k)) (q : Q ((xs.filter c).map f) S) : ∀ D, S D = none → lcW gd t tt te ρ D Q its [] S :=
  fun D hD => by
    rw [e]
    exact lcW_pure g c f hD hg xs [] (by simpa using l) h (by simpa using q)
/-- .. items that change the store -/
theorem lcW_ind {gd : Sto → Prop} {t : Tg} {te : PF} {ρ : Env'} {D : Addr} {Q : List Pv → Sto → Prop} (I : List Pv → Sto → Prop) (hg : ∀ S', gd S') (P : Pv → Prop) : ∀ (its acc : List Pv) (S : Sto), acc.length + its.length ≤ sizeLine → (∀ x ∈ its, P x) → S D = none → I acc S → (∀ acc S, acc.length ≤ sizeLine → S D = none → I acc S → Q acc S) →
    (∀ x, P x → ∀ acc S (k : QV), S D = none → I acc S → (∀ y S3, S3 D = some (.lst acc) → I (acc ++ [y]) (del S3 D) → k y S3) → ∃ ρ2, bindT (put S D (.lst acc)) t x ρ = some ρ2 ∧ te ρ2 (put S D (.lst acc)) k) → lcW gd t fYes te ρ D Q its acc S
  | [], acc, S, l, _, hD, h0, fin, _ => ⟨hg _, fin _ _ (by simpa using l) hD h0⟩
  | x :: xs, acc, S, l, hP, hD, h0, fin, st => by
    have l' : acc.length + (xs.length + 1) ≤ sizeLine := l
    refine ⟨hg _, ?_⟩
    obtain ⟨ρ2, e, h⟩ := st x (hP x List.mem_cons_self) acc S (fun y S3 => S3 D = some (.lst acc) ∧ acc.length < sizeLine ∧ lcW gd t fYes te ρ D Q xs (acc ++ [y]) (del S3 D)) hD h0 (fun y S3 e i => ⟨e, by omega, lcW_ind I hg P xs _ _ (by rw [List.length_append]; simp; omega) (fun y hy => hP y (List.mem_cons_of_mem _ hy)) del_same i fin st⟩)
    rw [e]
    exact h
end PL
namespace PL
open PySem PySem.Spec PyProof.Rows L2
/-! ### kinds of things -/
def kdP : Pv → Tk
  | .non => .non | .bl _ => .bl | .int _ => .int | .str _ => .str | .tup _ => .tup | .lst _ => .lst | .scr _ => .lst | .dct _ _ => .dct | .ref _ => .non | .ty _ => .non
theorem tyP_of {S : Sto} {x : Pv} (h : tyD x = true) : tyP S x = some (kdP x) := by
  cases x with
  | ref a => cases h
  | ty n => cases h
  | _ => rfl
theorem isi_i {S : Sto} {x : Pv} {c : Tk} {Q : QV} (h : tyD x = true) (q : Q (.bl (isiT (kdP x) c)) S) : oIsi c x S Q := by
  unfold oIsi
  rw [tyP_of h]
  exact q
end PL
namespace PL
open PySem PySem.Spec PyProof.Rows L2
/-- a loop whose invariant knows what has been walked -/
theorem forW_acc {α : Type} {gd : Sto → Prop} {t : Tg} {b : PFS} {D : Ends'} (g : α → Pv) (all : List α) (I : List α → Env' → Sto → Prop) (fin : ∀ ρ S, I all ρ S → gd S ∧ D.nx ρ S)
    (step : ∀ (pre : List α) (x : α) (post : List α), pre ++ x :: post = all → ∀ (k : Env' → Sto → Prop), (∀ ρ S, I (pre ++ [x]) ρ S → k ρ S) → ∀ ρ S, I pre ρ S → gd S ∧ match bindT S t (g x) ρ with | some ρ' => b { nx := k, rt := D.rt, bk := D.nx, ct := k } ρ' S | none => False) :
    ∀ (pre xs : List α) (ρ : Env') (S : Sto), pre ++ xs = all → I pre ρ S → forW gd t b D (xs.map g) ρ S
  | pre, [], ρ, S, e, h => by
    rw [List.append_nil] at e
    subst e
    exact fin ρ S h
  | pre, x :: xs, ρ, S, e, h => step pre x xs e (forW gd t b D (xs.map g)) (fun ρ' S' h' => forW_acc g all I fin step (pre ++ [x]) xs ρ' S' (by rw [List.append_assoc]; exact e) h') ρ S h
end PL
namespace PL
open PySem PySem.Spec PyProof.Rows L2
theorem allBl_map {α : Type} (f : α → Bool) : ∀ xs : List α, allBl (xs.map fun x => .bl (f x)) = some (xs.map f)
  | [] => rfl
  | x :: xs => by
    show (allBl (xs.map fun x => .bl (f x))).map (f x :: ·) = _
    rw [allBl_map f xs]
    rfl
theorem all_i {α : Type} {S : Sto} {Q : QV} {f : α → Bool} {xs : List α} (q : Q (.bl ((xs.map f).all id)) S) : oAll [.lst (xs.map fun x => .bl (f x))] S Q := by
  show match (some (xs.map fun x => Pv.bl (f x))).bind allBl with | some bs => Q (.bl (bs.all id)) S | none => False
  rw [Option.bind_some, allBl_map]
  exact q
end PL
namespace PL
open PySem PySem.Spec PyProof.Rows L2
/-- .. and the list is as long as what was walked -/
theorem lcW_indN {gd : Sto → Prop} {t : Tg} {te : PF} {ρ : Env'} {D : Addr} {Q : List Pv → Sto → Prop} (I : List Pv → Sto → Prop) (hg : ∀ S', gd S') (P : Pv → Prop) (N : Nat) (hN : N ≤ sizeLine) : ∀ (its acc : List Pv) (S : Sto), acc.length + its.length = N → (∀ x ∈ its, P x) → S D = none → I acc S → (∀ acc S, acc.length = N → S D = none → I acc S → Q acc S) →
    (∀ x, P x → ∀ acc S (k : QV), S D = none → I acc S → (∀ y S3, S3 D = some (.lst acc) → I (acc ++ [y]) (del S3 D) → k y S3) → ∃ ρ2, bindT (put S D (.lst acc)) t x ρ = some ρ2 ∧ te ρ2 (put S D (.lst acc)) k) → lcW gd t fYes te ρ D Q its acc S
  | [], acc, S, l, _, hD, h0, fin, _ => ⟨hg _, fin _ _ (by simpa using l) hD h0⟩
  | x :: xs, acc, S, l, hP, hD, h0, fin, st => by
    have l' : acc.length + (xs.length + 1) = N := l
    refine ⟨hg _, ?_⟩
    obtain ⟨ρ2, e, h⟩ := st x (hP x List.mem_cons_self) acc S (fun y S3 => S3 D = some (.lst acc) ∧ acc.length < sizeLine ∧ lcW gd t fYes te ρ D Q xs (acc ++ [y]) (del S3 D)) hD h0 (fun y S3 e i => ⟨e, by omega, lcW_indN I hg P N hN xs _ _ (by rw [List.length_append]; simp; omega) (fun y hy => hP y (List.mem_cons_of_mem _ hy)) del_same i fin st⟩)
    rw [e]
    exact h
end PL
namespace PL
open PySem PySem.Spec PyProof.Rows L2
theorem at_map {α : Type} {xs : List α} {f : α → Pv} {r : Int} {P : α → Prop} (h0 : 0 ≤ r) (h : r < xs.length) (hP : ∀ n ∈ xs, P n) : ∃ n, atI (xs.map f) r = some (f n) ∧ P n := by
  obtain ⟨p, e, hp⟩ := at_of (xs := xs.map f) h0 (by simpa using h)
  obtain ⟨n, hn, rfl⟩ := List.mem_map.mp hp
  exact ⟨n, e, hP n hn⟩
end PL

/-! Points. -/
namespace PL
open PySem PySem.Spec PyProof.Rows L2
def stepsR (p q : Rat × Rat) : Rat × Rat := (absR (p.1 - q.1), absR (p.2 - q.2))
def SzP (n : Nat) (p : Rat × Rat) : Prop := Sz n p.1 ∧ Sz n p.2
theorem SzP.up {n m : Nat} {p : Rat × Rat} (h : SzP n p) (l : n ≤ m) : SzP m p := ⟨h.1.up l, h.2.up l⟩
theorem SzP.steps {n m : Nat} {p q : Rat × Rat} (h : SzP n p) (h' : SzP m q) : SzP (n + m + 1) (stepsR p q) := ⟨(h.1.sub h'.1).abs, (h.2.sub h'.2).abs⟩
def sqR (p q : Rat × Rat) : Rat := (stepsR p q).1 * (stepsR p q).1 + (stepsR p q).2 * (stepsR p q).2
def stR (p q : Rat × Rat) : Rat := (stepsR p q).1 + (stepsR p q).2
def bxR (p q : Rat × Rat) : Rat := if (stepsR p q).1 < (stepsR p q).2 then (stepsR p q).2 else (stepsR p q).1
def crossR (p q r : Rat × Rat) : Rat := (q.1 - p.1) * (r.2 - p.2) - (q.2 - p.2) * (r.1 - p.1)
theorem Sz.cross {n : Nat} {p q r : Rat × Rat} (h1 : SzP n p) (h2 : SzP n q) (h3 : SzP n r) : Sz (8 * n + 5) (crossR p q r) :=
  (((h2.1.sub h1.1).mul (h3.2.sub h1.2)).sub ((h2.2.sub h1.2).mul (h3.1.sub h1.1))).up (by omega)
theorem sgn_eq (i : Int) : (if decide (i > 0) = true then (1 : Int) else 0) - (if decide (i < 0) = true then 1 else 0) = i.sign := by
  rcases Int.lt_trichotomy i 0 with h | h | h
  · rw [Int.sign_eq_neg_one_of_neg h, if_neg (by simp; omega), if_pos (by simpa using h)]; rfl
  · subst h; rfl
  · rw [Int.sign_eq_one_of_pos h, if_pos (by simpa using h), if_neg (by simp; omega)]; rfl
theorem sq_nn (x : Rat) : 0 ≤ x * x := by
  rcases (Rat.le_total : (0 : Rat) ≤ x ∨ x ≤ 0) with h | h
  · exact Rat.mul_nonneg h h
  · have : 0 ≤ (-x) * (-x) := Rat.mul_nonneg (by grind) (by grind)
    grind
theorem sq_zero {x y : Rat} : x * x + y * y = 0 ↔ x = 0 ∧ y = 0 := by
  constructor
  · intro h
    have h1 := sq_nn x
    have h2 := sq_nn y
    have h3 : x * x = 0 := by grind
    have h4 : y * y = 0 := by grind
    exact ⟨by rcases Rat.mul_eq_zero.mp h3 with h | h <;> exact h, by rcases Rat.mul_eq_zero.mp h4 with h | h <;> exact h⟩
  · rintro ⟨rfl, rfl⟩; grind
theorem stepsR_comm (p q : Rat × Rat) : stepsR p q = stepsR q p := by unfold stepsR; rw [absR_sub, absR_sub p.2]
theorem sqR_comm (p q : Rat × Rat) : sqR p q = sqR q p := by unfold sqR; rw [stepsR_comm]
theorem stR_comm (p q : Rat × Rat) : stR p q = stR q p := by unfold stR; rw [stepsR_comm]
theorem bxR_comm (p q : Rat × Rat) : bxR p q = bxR q p := by unfold bxR; rw [stepsR_comm]
theorem sqR_zero (p q : Rat × Rat) : sqR p q = 0 ↔ p = q := by
  unfold sqR
  rw [sq_zero]
  unfold stepsR
  rw [absR_zero, absR_zero]
  exact ⟨fun h => Prod.ext h.1 h.2, fun h => by rw [h]; exact ⟨rfl, rfl⟩⟩
theorem stR_tri (p r q : Rat × Rat) : ¬ (stR p r + stR r q < stR p q) := by
  have h1 := absR_tri p.1 r.1 q.1
  have h2 := absR_tri p.2 r.2 q.2
  unfold stR stepsR
  grind
theorem bxR_tri (p r q : Rat × Rat) : ¬ (bxR p r + bxR r q < bxR p q) := by
  have h1 := absR_tri p.1 r.1 q.1
  have h2 := absR_tri p.2 r.2 q.2
  unfold bxR stepsR
  grind
theorem sign_of_mul {i : Int} {q : Rat} {d : Int} (hd : 0 < d) (h : (i : Rat) = q * d) : i.sign = q.num.sign := by
  have hd' : (0 : Rat) < (d : Rat) := by exact_mod_cast hd
  rcases Int.lt_trichotomy q.num 0 with a | a | a
  · have a' : q < 0 := (num_neg_iff q).mpr a
    have : (i : Rat) < 0 := by
      rw [h]
      have := Rat.mul_lt_mul_of_pos_right a' hd'
      simpa using this
    rw [Int.sign_eq_neg_one_of_neg a, Int.sign_eq_neg_one_of_neg (by exact_mod_cast this)]
  · have a' : q = 0 := Rat.num_eq_zero.mp a
    rw [a'] at h
    have : (i : Rat) = 0 := by rw [h]; simp
    have : i = 0 := by exact_mod_cast this
    rw [this, a]
  · have a' : 0 < q := by
      have h1 : ¬ q < 0 := fun e => by have := (num_neg_iff q).mp e; omega
      have h2 : q ≠ 0 := fun e => by rw [e] at a; exact absurd a (by decide)
      grind
    have : (0 : Rat) < i := by
      rw [h]
      exact Rat.mul_pos a' hd'
    rw [Int.sign_eq_one_of_pos a, Int.sign_eq_one_of_pos (by exact_mod_cast this)]
theorem cast_div (z : Int) : (z : Rat) = Rat.divInt z 1 := by
  have h := Rat.num_divInt_den (z : Rat)
  rw [Rat.num_intCast, Rat.den_intCast] at h
  exact h.symm
theorem mul_den (x : Rat) : x * ((x.den : Int) : Rat) = (x.num : Rat) := by
  have e : x * ((x.den : Int) : Rat) = Rat.divInt x.num x.den * Rat.divInt x.den 1 := by
    rw [Rat.num_divInt_den, ← cast_div]
  rw [e, Rat.divInt_mul_divInt, Int.mul_comm x.num, Rat.divInt_mul_left (den_ne x), ← cast_div]
theorem Int.cast_mul' (a b : Int) : ((a * b : Int) : Rat) = (a : Rat) * (b : Rat) := Rat.intCast_mul a b
theorem whole_of {x : Rat} {D : Int} (h : (x.den : Int) ∣ D) : ((x.num * D.fdiv x.den : Int) : Rat) = x * D := by
  obtain ⟨c, rfl⟩ := h
  have e : ((x.den : Int) * c).fdiv x.den = c := by rw [Int.mul_comm]; exact Int.mul_fdiv_cancel _ (den_ne x)
  rw [e]
  have h2 := mul_den x
  rw [Int.cast_mul', Int.cast_mul', ← Rat.mul_assoc, h2]
/-! ### over, maps -/
theorem div_eq (p q : Rat) : p / q = Rat.divInt (p.num * q.den) (p.den * q.num) := by
  have h : q⁻¹ = Rat.divInt q.den q.num := by
    have := Rat.inv_divInt q.num q.den
    rw [Rat.num_divInt_den] at this
    exact this
  rw [Rat.div_def, h]
  have e := Rat.divInt_mul_divInt p.num (q.den : Int) (d₁ := p.den) (d₂ := q.num)
  rw [Rat.num_divInt_den] at e
  exact e
theorem Sz.div {n m : Nat} {p q : Rat} (h : Sz n p) (h' : Sz m q) (hq : q ≠ 0) : Sz (n + m) (p / q) := by
  rw [div_eq]
  have : q.num ≠ 0 := fun e => hq (Rat.num_eq_zero.mp e)
  exact divInt_sz (Int.mul_ne_zero (den_ne p) this) (h.1.mul h'.2) (h.2.mul h'.1)
theorem Sz.zero : Sz 1 (0 : Rat) := by unfold Sz szI; decide
theorem Sz.one : Sz 1 (1 : Rat) := by unfold Sz szI; decide
structure Mp where
  (a b c d e f : Rat)
def mp (w : Mp) : Pv := .tup [fr w.a, fr w.b, fr w.c, fr w.d, fr w.e, fr w.f]
structure SzM (n : Nat) (w : Mp) : Prop where
  (a : Sz n w.a) (b : Sz n w.b) (c : Sz n w.c) (d : Sz n w.d) (e : Sz n w.e) (f : Sz n w.f)
theorem SzM.up {n m : Nat} {w : Mp} (h : SzM n w) (l : n ≤ m) : SzM m w := ⟨h.a.up l, h.b.up l, h.c.up l, h.d.up l, h.e.up l, h.f.up l⟩
def ownR (w : Mp) : Rat := w.a * w.d - w.b * w.c
def ledR (w : Mp) (p : Rat × Rat) : Rat × Rat := (w.a * p.1 + w.b * p.2 + w.e, w.c * p.1 + w.d * p.2 + w.f)
def strR (w : Mp) : Mp := ⟨w.a, w.b, w.c, w.d, 0, 0⟩
def joinR (w o : Mp) : Mp := ⟨(ledR (strR o) (w.a, w.c)).1, (ledR (strR o) (w.b, w.d)).1, (ledR (strR o) (w.a, w.c)).2, (ledR (strR o) (w.b, w.d)).2, (ledR o (w.e, w.f)).1, (ledR o (w.e, w.f)).2⟩
def turnedR (w : Mp) : Mp := ⟨w.d / ownR w, 0 - w.b / ownR w, 0 - w.c / ownR w, w.a / ownR w, 0, 0⟩
def backR (w : Mp) : Mp := ⟨(turnedR w).a, (turnedR w).b, (turnedR w).c, (turnedR w).d, 0 - (ledR (turnedR w) (w.e, w.f)).1, 0 - (ledR (turnedR w) (w.e, w.f)).2⟩
theorem Sz.own {n : Nat} {w : Mp} (h : SzM n w) : Sz (4 * n + 1) (ownR w) := ((h.a.mul h.d).sub (h.b.mul h.c)).up (by omega)
theorem SzP.led {n m : Nat} {w : Mp} {p : Rat × Rat} (h : SzM n w) (h' : SzP m p) : SzP (3 * n + 2 * m + 2) (ledR w p) :=
  ⟨(((h.a.mul h'.1).add (h.b.mul h'.2)).add h.e).up (by omega), (((h.c.mul h'.1).add (h.d.mul h'.2)).add h.f).up (by omega)⟩
end PL

/-! Codes of tiles: texts of the figures 0 to 3. -/
namespace PL
open PySem PySem.Spec PyProof.Rows L2
def cdS (ds : List Nat) : Str := ⟨(ds.map (· + 48)).toArray⟩
abbrev fg (d : Nat) : Pv := .str ⟨#[d + 48]⟩
theorem cd_chars (ds : List Nat) : chars (cdS ds) = ds.map fg := by
  unfold chars cdS
  simp [List.map_map]
theorem cd_len (ds : List Nat) : (cdS ds).length = ds.length := by
  unfold cdS Str.length
  simp
theorem cd_app (ds es : List Nat) : cdS ds ++ cdS es = cdS (ds ++ es) := by
  unfold cdS
  show Str.mk _ = _
  simp
theorem cd_nil : cdS [] = "" := rfl
theorem lt4 {d : Nat} (h : d < 4) : d = 0 ∨ d = 1 ∨ d = 2 ∨ d = 3 := by omega
/-- column and row -/
def spN : List Nat → Nat × Nat
  | ds => ds.foldl (fun a d => (2 * a.1 + d % 2, 2 * a.2 + d / 2)) (0, 0)
theorem spN_snoc (ds : List Nat) (d : Nat) : spN (ds ++ [d]) = (2 * (spN ds).1 + d % 2, 2 * (spN ds).2 + d / 2) := by
  unfold spN
  rw [List.foldl_append]
  rfl
theorem spN_lt : ∀ (n : Nat) (ds : List Nat), ds.length = n → (∀ d ∈ ds, d < 4) → (spN ds).1 < 2 ^ n ∧ (spN ds).2 < 2 ^ n := by
  intro n
  induction n with
  | zero =>
    intro ds h _
    have : ds = [] := List.length_eq_zero_iff.mp h
    subst this
    decide
  | succ n ih =>
    intro ds h hd
    have hne : ds ≠ [] := by rintro rfl; simp at h
    obtain ⟨es, d, rfl⟩ : ∃ es d, ds = es ++ [d] := ⟨ds.dropLast, ds.getLast hne, (List.dropLast_concat_getLast hne).symm⟩
    have hl : es.length = n := by simpa using h
    have h1 := ih es hl (fun x hx => hd x (by simp [hx]))
    have h2 : d < 4 := hd d (by simp)
    rw [spN_snoc, Nat.pow_succ]
    constructor
    · show 2 * (spN es).1 + d % 2 < _
      omega
    · show 2 * (spN es).2 + d / 2 < _
      omega
/-- the box of a code: x, y, side -/
def boxR (ds : List Nat) : Rat × Rat × Rat := (Rat.divInt (64 * (spN ds).1) (2 ^ ds.length), Rat.divInt (64 * (spN ds).2) (2 ^ ds.length), Rat.divInt 64 (2 ^ ds.length))
def bx3 (b : Rat × Rat × Rat) : Pv := .tup [fr b.1, fr b.2.1, fr b.2.2]
theorem pow2_ne (n : Nat) : ((2 : Int) ^ n) ≠ 0 := by
  have := Int.pow_pos (n := 2) (m := n) (by decide); omega
theorem boxR_nil : boxR [] = (0, 0, 64) := by decide +kernel
theorem half (t : Int) (n : Nat) : Rat.divInt t (2 ^ n) = Rat.divInt (2 * t) (2 ^ (n + 1)) := by
  rw [Int.pow_succ, Int.mul_comm ((2 : Int) ^ n) 2, Rat.divInt_mul_left (by decide)]
theorem divInt_two (t : Int) (n : Nat) : Rat.divInt t (2 ^ n) / 2 = Rat.divInt t (2 ^ (n + 1)) := by
  rw [half t n]
  have h : Rat.divInt (2 * t) (2 ^ (n + 1)) = 2 * Rat.divInt t (2 ^ (n + 1)) := by
    have e := Rat.divInt_mul_divInt 2 t (d₁ := 1) (d₂ := 2 ^ (n + 1))
    rw [Int.one_mul, ← cast_div] at e
    exact e.symm
  rw [h]
  grind
theorem divInt_add' (s t : Int) (n : Nat) : Rat.divInt s (2 ^ n) + Rat.divInt t (2 ^ n) = Rat.divInt (s + t) (2 ^ n) := by
  rw [Rat.divInt_add_divInt _ _ (pow2_ne n) (pow2_ne n), ← Int.add_mul, Rat.divInt_mul_right (pow2_ne n)]
theorem boxR_snoc (ds : List Nat) (d : Nat) : boxR (ds ++ [d]) = (if d % 2 = 1 then (boxR ds).1 + (boxR ds).2.2 / 2 else (boxR ds).1, if d / 2 % 2 = 1 then (boxR ds).2.1 + (boxR ds).2.2 / 2 else (boxR ds).2.1, (boxR ds).2.2 / 2) ∨ 4 ≤ d := by
  by_cases hd : d < 4
  · left
    unfold boxR
    simp only [spN_snoc, List.length_append, List.length_cons, List.length_nil]
    rw [divInt_two]
    have hx : ∀ (c m : Nat), m < 2 → Rat.divInt (64 * ((2 * c + m : Nat) : Int)) (2 ^ (ds.length + (0 + 1))) = if m = 1 then Rat.divInt (64 * (c : Int)) (2 ^ ds.length) + Rat.divInt 64 (2 ^ (ds.length + 1)) else Rat.divInt (64 * (c : Int)) (2 ^ ds.length) := by
      intro c m hm
      rw [half (64 * (c : Int)), divInt_add']
      split
      · congr 1
        omega
      · congr 1
        omega
    rw [hx _ _ (by omega), hx _ (d / 2) (by omega)]
    have e : d / 2 % 2 = d / 2 := by omega
    rw [e]
  · right; omega
theorem SzB (ds : List Nat) (h : ∀ d ∈ ds, d < 4) (l : ds.length ≤ 100) : Sz 120 (boxR ds).1 ∧ Sz 120 (boxR ds).2.1 ∧ Sz 120 (boxR ds).2.2 := by
  have hl := spN_lt ds.length ds rfl h
  have hp : (2 : Nat) ^ ds.length ≤ 2 ^ 100 := Nat.pow_le_pow_right (by decide) l
  have hb : szI 120 ((2 : Int) ^ ds.length) := by
    unfold szI
    rw [show ((2 : Int) ^ ds.length) = ((2 ^ ds.length : Nat) : Int) by simp, Int.natAbs_natCast]
    omega
  refine ⟨divInt_sz (pow2_ne _) ?_ hb, divInt_sz (pow2_ne _) ?_ hb, divInt_sz (pow2_ne _) (by unfold szI; decide) hb⟩
  · unfold szI; omega
  · unfold szI; omega
theorem occ_fg {d : Nat} (h : d < 4) : Builtin.Str.occurrences (Str.ofString "0123") { cps := #[d + 48] } 0 (Str.ofString "0123").length 1 = [d] := by
  rcases lt4 h with rfl | rfl | rfl | rfl <;> decide +kernel
theorem len_cd {S : Sto} {ds : List Nat} (h : ds.length ≤ 9) : lenP S (.str (cdS ds)) = some ds.length := by
  show (if (cdS ds).length ≤ sizeLine then some (cdS ds).length else none) = _
  rw [cd_len, if_pos (Nat.le_trans h (by decide))]
theorem in_fg {d : Nat} (h : d < 4) : inTxt ⟨#[d + 48]⟩ (Str.ofString "0123") = true := by
  rcases lt4 h with rfl | rfl | rfl | rfl <;> decide +kernel
theorem cross_num {t b : Int} (hb : b ≠ 0) : (Rat.divInt t b).num * b = t * (Rat.divInt t b).den := by
  have h : Rat.divInt (Rat.divInt t b).num (Rat.divInt t b).den = Rat.divInt t b := Rat.num_divInt_den _
  exact (Rat.divInt_eq_divInt_iff (den_ne _) hb).mp h
theorem low_in {t b : Int} (hb : 0 < b) (h0 : 0 ≤ t) (h1 : t < 64 * b) : 0 ≤ (Rat.divInt t b).num ∧ (Rat.divInt t b).num < 64 * (Rat.divInt t b).den := by
  have e := cross_num (t := t) (b := b) (by omega)
  have hd := den_pos (Rat.divInt t b)
  generalize (Rat.divInt t b).num = n at *
  generalize ((Rat.divInt t b).den : Int) = d at *
  have e2 : 0 ≤ t * d := Int.mul_nonneg h0 (by omega)
  have e3 : t * d < 64 * b * d := Int.mul_lt_mul_of_pos_right h1 hd
  constructor
  · apply Decidable.byContradiction
    intro h
    have : n * b < 0 := Int.mul_neg_of_neg_of_pos (by omega) hb
    omega
  · apply Decidable.byContradiction
    intro h
    have h2 : 64 * d * b ≤ n * b := Int.mul_le_mul_of_nonneg_right (by omega) (by omega)
    have h3 : 64 * d * b = 64 * b * d := by grind
    omega
/-! ### a code out of column and row -/
def dgN (c r b : Nat) : Nat := 2 * (r / 2 ^ b % 2) + c / 2 ^ b % 2
def cdN (c r : Nat) : Nat → List Nat
  | 0 => []
  | d + 1 => dgN c r d :: cdN c r d
theorem dgN_lt (c r b : Nat) : dgN c r b < 4 := by unfold dgN; omega
theorem cdN_lt (c r : Nat) : ∀ (n : Nat), ∀ d ∈ cdN c r n, d < 4
  | 0, d, h => by cases h
  | n + 1, d, h => by
    rcases List.mem_cons.mp h with rfl | h
    · exact dgN_lt c r n
    · exact cdN_lt c r n d h
theorem cdN_len (c r : Nat) : ∀ n : Nat, (cdN c r n).length = n
  | 0 => rfl
  | n + 1 => by show (cdN c r n).length + 1 = _; rw [cdN_len c r n]
theorem band1 (n : Nat) : Builtin.bitAnd (n : Int) 1 = ((n % 2 : Nat) : Int) := by
  show Int.ofNat (n &&& 1) = _
  rw [Nat.and_one_is_mod]
  rfl
theorem shr_nat (n b : Nat) : ((n : Nat) : Int) / 2 ^ b = ((n / 2 ^ b : Nat) : Int) := by simp
theorem at_fig {d : Nat} (h : d < 4) : atI (Str.ofString "0123").cps.toList (d : Int) = some (d + 48) := by
  rcases lt4 h with rfl | rfl | rfl | rfl <;> decide +kernel
theorem allS_fg : ∀ ds : List Nat, allS (ds.map fg) = some (ds.map fun d => (⟨#[d + 48]⟩ : Str))
  | [] => rfl
  | d :: ds => by
    show (allS (ds.map fg)).map _ = _
    rw [allS_fg ds]
    rfl
theorem put_comm {S : Sto} {a b : Addr} {m n : Mo} (h : a ≠ b) : put (put S a m) b n = put (put S b n) a m := by
  funext c
  simp only [put]
  split
  · rename_i e; subst e; rw [if_neg (fun z => h z.symm)]
  · rfl
end PL

/-! The pen of a law, and what is kept beside it. -/
namespace PL
open PySem PySem.Spec PyProof.Rows L2
/-- the pen at l is a good one, all else of S is in S2 -/
structure Pk (G : Mo → Prop) (S : Sto) (l : Addr) (S2 : Sto) : Prop where
  pen : ∃ m, S2 l = some m ∧ G m
  has : ∀ b o, b ≠ l → S b = some o → S2 b = some o
section
variable {G : Mo → Prop} {S S2 : Sto} {l a : Addr}
theorem Pk.refl {m : Mo} (h : S l = some m) (g : G m) : Pk G S l S := ⟨⟨m, h, g⟩, fun _ _ _ h => h⟩
theorem Pk.of (h : ∃ m, S l = some m ∧ G m) : Pk G S l S := ⟨h, fun _ _ _ h => h⟩
theorem Pk.new {m : Mo} (g : G m) : Pk G S l (put S l m) := ⟨⟨m, put_same, g⟩, fun b o h e => by rw [put_ne h]; exact e⟩
theorem Pk.draw {m : Mo} (k : Pk G S l S2) (g : G m) : Pk G S l (put S2 l m) := ⟨⟨m, put_same, g⟩, fun b o h e => by rw [put_ne h]; exact k.has b o h e⟩
theorem Pk.ne (k : Pk G S l S2) (h : S2 a = none) : a ≠ l := fun e => by
  obtain ⟨m, e1, _⟩ := k.pen
  rw [← e, h] at e1; cases e1
theorem Pk.ne' (k : Pk G S l S2) (h : S2 a = none) : S a = none := by
  cases e : S a with
  | none => rfl
  | some o => rw [k.has a o (k.ne h) e] at h; cases h
theorem Pk.put {x : Mo} (k : Pk G S l S2) (h : S a = none) (hl : a ≠ l) : Pk G S l (put S2 a x) := ⟨by
  obtain ⟨m, e, g⟩ := k.pen
  exact ⟨m, by rw [put_ne hl.symm]; exact e, g⟩, fun b o hb e => by
    rw [put_ne (fun z => by rw [z, h] at e; cases e)]
    exact k.has b o hb e⟩
theorem Pk.alloc {x : Mo} (k : Pk G S l S2) (h : S2 a = none) : Pk G S l (PL.put S2 a x) := k.put (k.ne' h) (k.ne h)
theorem Pk.del (k : Pk G S l S2) (h : S a = none) (hl : a ≠ l) : Pk G S l (del S2 a) := ⟨by
  obtain ⟨m, e, g⟩ := k.pen
  exact ⟨m, by rw [del_ne hl.symm]; exact e, g⟩, fun b o hb e => by
    rw [del_ne (fun z => by rw [z, h] at e; cases e)]
    exact k.has b o hb e⟩
theorem Pk.upd {S3 : Sto} (k : Pk G S l S2) (h : ∀ b, b ≠ a → S3 b = S2 b) (ha : S a = none) (hl : a ≠ l) : Pk G S l S3 := ⟨by
  obtain ⟨m, e, g⟩ := k.pen
  exact ⟨m, by rw [h l hl.symm]; exact e, g⟩, fun b o hb e => by
    rw [h b (fun z => by rw [z, ha] at e; cases e)]
    exact k.has b o hb e⟩
theorem Pk.trans {S3 : Sto} (k : Pk G S l S2) (k' : Pk G S2 l S3) : Pk G S l S3 := ⟨k'.pen, fun b o h e => k'.has b o h (k.has b o h e)⟩
theorem Pk.sub (k : Pk G S l S2) : ∃ m, G m ∧ Sub (PL.put S l m) S2 := by
  obtain ⟨m, e, g⟩ := k.pen
  refine ⟨m, g, fun b o h => ?_⟩
  by_cases hb : b = l
  · subst hb; rw [put_same] at h; cases h; exact e
  · rw [put_ne hb] at h; exact k.has b o hb h
theorem Pk.out {Q : QV} {p : Pv} (k : Pk G S l S2) (q : ∀ m, G m → Q p (PL.put S l m)) : Out Q p S2 := by
  obtain ⟨m, g, s⟩ := k.sub
  exact Out.less s (q m g)
/-- .. a list of one's own is told whole -/
theorem Pk.frz {Q : QV} {xs : List Pv} (k : Pk G S l S2) (ha : S a = none) (hl : a ≠ l) (h : S2 a = some (.lst xs)) (q : ∀ m, G m → Q (.lst xs) (PL.put S l m)) : Out Q (.ref a) S2 := by
  obtain ⟨m, g, s⟩ := (k.del ha hl).sub
  exact Out.frz h s (q m g)
end
theorem Sub.refl' (S : Sto) : Sub S S := fun _ _ h => h
def qq (n : Int) (d : Nat) (h : d ≠ 0 := by decide) (c : n.natAbs.Coprime d := by decide) : Rat := ⟨n, d, h, c⟩
theorem fr_int' (i : Int) : fr (i : Rat) = .tup [.int i, .int 1] := rfl
theorem eqv_nil (ds : List PyData) : PyData.eqv (.list ds) (.list []) = ds.isEmpty := by
  cases ds <;> rfl
theorem Sh.str {n d : Nat} {x : Str} (h : x.length ≤ n) (hx : ∀ c ∈ x.cps.toList, c < 16 ^ 8) : Sh (10 * n + 2) d (.str x) :=
  ⟨rfl, rfl, Nat.le_trans (PySem.StrLaws.reprText_len x hx) (by omega), Nat.zero_le _⟩
theorem Sh.cd {n d : Nat} {ds : List Nat} (h : ds.length ≤ n) (hd : ∀ z ∈ ds, z < 4) : Sh (10 * n + 2) d (.str (cdS ds)) :=
  Sh.str (by rw [cd_len]; exact h) fun c hc => by
    have : c ∈ ds.map (· + 48) := by simpa [cdS] using hc
    obtain ⟨z, hz, rfl⟩ := List.mem_map.mp this
    have := hd z hz
    show z + 48 < _
    omega
/-- texts: no sign between -/
theorem join_cd : ∀ ds : List Nat, Txt.join (Str.ofString "") (ds.map fun d => (⟨#[d + 48]⟩ : Str)) = cdS ds := by
  intro ds
  have e0 : Str.ofString "" = ⟨([] : List Nat).toArray⟩ := rfl
  rw [TL.join_eq]
  have main : ∀ (ds : List Nat), Str.join (Str.ofString "") (ds.map fun d => (⟨#[d + 48]⟩ : Str)) = cdS ds := by
    intro ds
    induction ds with
    | nil => rfl
    | cons d ds ih =>
      cases ds with
      | nil => rfl
      | cons d2 ds =>
        show ((⟨#[d + 48]⟩ : Str) ++ Str.ofString "") ++ Str.join (Str.ofString "") ((d2 :: ds).map fun d => (⟨#[d + 48]⟩ : Str)) = _
        rw [ih]
        exact cd_app [d] (d2 :: ds)
  exact main ds
end PL

/-! The land and its tiles: plain. -/
namespace PL
open PySem PySem.Spec PyProof.Rows L2
def inLand (p : Rat × Rat) : Prop := (0 ≤ p.1.num ∧ p.1.num < 64 * p.1.den) ∧ 0 ≤ p.2.num ∧ p.2.num < 64 * p.2.den
def inL (q : Rat) : Prop := 0 ≤ q.num ∧ q.num < 64 * q.den
def colN (q : Rat) (d : Nat) : Nat := (q.num * 2 ^ d / (64 * q.den)).toNat
theorem div_nat {q : Rat} {n : Nat} (h : 0 ≤ q.num) : ((colN q n : Nat) : Int) = q.num * 2 ^ n / (64 * q.den) := by
  unfold colN
  have h1 : 0 ≤ q.num * 2 ^ n := Int.mul_nonneg h (Int.le_of_lt (Int.pow_pos (by decide)))
  have h2 : 0 ≤ q.num * 2 ^ n / (64 * q.den) := Int.ediv_nonneg h1 (by omega)
  omega
theorem lt_div {q : Rat} {c : Int} {n : Nat} : q < Rat.divInt (64 * c) (2 ^ n) ↔ q.num * 2 ^ n < 64 * c * q.den := by
  have hp : (0 : Int) < 2 ^ n := Int.pow_pos (by decide)
  have hd := den_pos q
  have e : q = Rat.divInt q.num q.den := (Rat.num_divInt_den q).symm
  have hx := cross_num (t := 64 * c) (b := 2 ^ n) (by omega)
  have hy := den_pos (Rat.divInt (64 * c) (2 ^ n))
  rw [Rat.lt_iff]
  generalize (Rat.divInt (64 * c) (2 ^ n)).num = x at *
  generalize ((Rat.divInt (64 * c) (2 ^ n)).den : Int) = y at *
  generalize (2 : Int) ^ n = b at *
  generalize (q.den : Int) = d at *
  generalize q.num = t at *
  constructor
  · intro h
    have h1 : t * y * b < x * d * b := Int.mul_lt_mul_of_pos_right h hp
    have h2 : t * b * y < 64 * c * d * y := by
      have : x * d * b = 64 * c * d * y := by grind
      have : t * y * b = t * b * y := by grind
      omega
    exact Int.lt_of_mul_lt_mul_right h2 (by omega)
  · intro h
    have h1 : t * b * y < 64 * c * d * y := Int.mul_lt_mul_of_pos_right h hy
    have h2 : t * y * b < x * d * b := by
      have : x * d * b = 64 * c * d * y := by grind
      have : t * y * b = t * b * y := by grind
      omega
    exact Int.lt_of_mul_lt_mul_right h2 (by omega)
theorem side_add (c : Int) (n : Nat) : Rat.divInt (64 * c) (2 ^ n) + Rat.divInt 64 (2 ^ n) = Rat.divInt (64 * (c + 1)) (2 ^ n) := by
  rw [divInt_add', Int.mul_add, Int.mul_one]
/-- the column that has a number -/
theorem col_iff {q : Rat} (h : 0 ≤ q.num) (n c : Nat) : (¬ q < Rat.divInt (64 * (c : Int)) (2 ^ n) ∧ q < Rat.divInt (64 * (c : Int)) (2 ^ n) + Rat.divInt 64 (2 ^ n)) ↔ colN q n = c := by
  rw [side_add, lt_div, lt_div]
  have hd := den_pos q
  have e := div_nat (n := n) h
  generalize q.num * 2 ^ n = t at *
  have hb : (0 : Int) < 64 * q.den := by omega
  constructor
  · rintro ⟨h1, h2⟩
    have h3 : (c : Int) * (64 * q.den) ≤ t := by
      have : 64 * (c : Int) * q.den = (c : Int) * (64 * q.den) := by grind
      omega
    have h4 : t < ((c : Int) + 1) * (64 * q.den) := by
      have : 64 * ((c : Int) + 1) * q.den = ((c : Int) + 1) * (64 * q.den) := by grind
      omega
    have h5 := (Int.le_ediv_iff_mul_le hb).mpr h3
    have h6 := (Int.ediv_lt_iff_lt_mul hb).mpr h4
    omega
  · intro hc
    subst hc
    have h5 : ((colN q n : Nat) : Int) ≤ t / (64 * q.den) := by omega
    have h6 : t / (64 * q.den) < (colN q n : Nat) + 1 := by omega
    have h3 := (Int.le_ediv_iff_mul_le hb).mp h5
    have h4 := (Int.ediv_lt_iff_lt_mul hb).mp h6
    have e1 : 64 * ((colN q n : Nat) : Int) * q.den = ((colN q n : Nat) : Int) * (64 * q.den) := by grind
    have e2 : 64 * (((colN q n : Nat) : Int) + 1) * q.den = (((colN q n : Nat) : Int) + 1) * (64 * q.den) := by grind
    omega
theorem cdN_snoc (c r : Nat) : ∀ n : Nat, cdN c r (n + 1) = cdN (c / 2) (r / 2) n ++ [2 * (r % 2) + c % 2]
  | 0 => by
    show [dgN c r 0] = [2 * (r % 2) + c % 2]
    unfold dgN
    simp
  | n + 1 => by
    show dgN c r (n + 1) :: cdN c r (n + 1) = dgN (c / 2) (r / 2) n :: cdN (c / 2) (r / 2) n ++ _
    rw [cdN_snoc c r n]
    have : dgN c r (n + 1) = dgN (c / 2) (r / 2) n := by
      unfold dgN
      rw [Nat.div_div_eq_div_mul, Nat.div_div_eq_div_mul, Nat.pow_succ, Nat.mul_comm (2 ^ n) 2]
    rw [this]
    rfl
theorem colN_half {q : Rat} (h : 0 ≤ q.num) (n : Nat) : colN q (n + 1) / 2 = colN q n := by
  have e1 := div_nat (n := n) h
  have e2 := div_nat (n := n + 1) h
  have hd := den_pos q
  have e3 : q.num * 2 ^ (n + 1) / (64 * q.den) / 2 = q.num * 2 ^ n / (64 * q.den) := by
    rw [Int.pow_succ, ← Int.mul_assoc, Int.ediv_ediv_of_nonneg (by omega), Int.mul_ediv_mul_of_pos_left _ _ (by decide)]
  omega
theorem spN_cdN (c r : Nat) : ∀ n : Nat, c < 2 ^ n → r < 2 ^ n → spN (cdN c r n) = (c, r) := by
  intro n
  induction n generalizing c r with
  | zero => intro h1 h2; rw [show c = 0 by omega, show r = 0 by omega]; rfl
  | succ n ih =>
    intro h1 h2
    rw [Nat.pow_succ] at h1 h2
    rw [cdN_snoc, spN_snoc, ih (c / 2) (r / 2) (by omega) (by omega)]
    show (2 * (c / 2) + _, 2 * (r / 2) + _) = _
    congr 1 <;> omega
theorem colN_lt {q : Rat} (h : inL q) (n : Nat) : colN q n < 2 ^ n := by
  have e := div_nat (n := n) h.1
  have hd := den_pos q
  have hp : (0 : Int) < 2 ^ n := Int.pow_pos (by decide)
  have h1 : q.num * 2 ^ n < 2 ^ n * (64 * q.den) := by
    have := Int.mul_lt_mul_of_pos_right h.2 hp
    rw [Int.mul_comm (2 ^ n)]
    exact this
  have h2 := (Int.ediv_lt_iff_lt_mul (show (0 : Int) < 64 * q.den by omega)).mpr h1
  have h3 : ((2 ^ n : Nat) : Int) = 2 ^ n := by simp
  omega
abbrev tlN (p : Rat × Rat) (n : Nat) : List Nat := cdN (colN p.1 n) (colN p.2 n) n
theorem tlN_snoc {p : Rat × Rat} (h : inLand p) (n : Nat) : tlN p (n + 1) = tlN p n ++ [2 * (colN p.2 (n + 1) % 2) + colN p.1 (n + 1) % 2] := by
  unfold tlN
  rw [cdN_snoc, colN_half h.1.1, colN_half h.2.1]
theorem memT (a b c d : Bool) : memD (.bl true) [.bl a, .bl b, .bl c, .bl d] = (a || b || c || d) := by
  cases a <;> cases b <;> cases c <;> cases d <;> rfl
/-- the box of a code, and one figure more, has the point just if the figure is the point's own -/
theorem box_has {p : Rat × Rat} (h : inLand p) (n x : Nat) (hx : x < 4) :
    (!(decide (p.1 < (boxR (tlN p n ++ [x])).1) || decide (p.2 < (boxR (tlN p n ++ [x])).2.1) || !decide (p.1 < (boxR (tlN p n ++ [x])).1 + (boxR (tlN p n ++ [x])).2.2) || !decide (p.2 < (boxR (tlN p n ++ [x])).2.1 + (boxR (tlN p n ++ [x])).2.2))) = decide (x = 2 * (colN p.2 (n + 1) % 2) + colN p.1 (n + 1) % 2) := by
  have hl : (tlN p n ++ [x]).length = n + 1 := by rw [List.length_append, cdN_len]; rfl
  have hs : spN (tlN p n ++ [x]) = (2 * colN p.1 n + x % 2, 2 * colN p.2 n + x / 2) := by
    rw [spN_snoc, spN_cdN _ _ _ (colN_lt h.1 n) (colN_lt h.2 n)]
  have e1 : (boxR (tlN p n ++ [x])).1 = Rat.divInt (64 * ((2 * colN p.1 n + x % 2 : Nat) : Int)) (2 ^ (n + 1)) := by unfold boxR; rw [hs, hl]
  have e2 : (boxR (tlN p n ++ [x])).2.1 = Rat.divInt (64 * ((2 * colN p.2 n + x / 2 : Nat) : Int)) (2 ^ (n + 1)) := by unfold boxR; rw [hs, hl]
  have e3 : (boxR (tlN p n ++ [x])).2.2 = Rat.divInt 64 (2 ^ (n + 1)) := by unfold boxR; rw [hl]
  rw [e1, e2, e3]
  have c1 := col_iff h.1.1 (n + 1) (2 * colN p.1 n + x % 2)
  have c2 := col_iff h.2.1 (n + 1) (2 * colN p.2 n + x / 2)
  have d1 := colN_half h.1.1 n
  have d2 := colN_half h.2.1 n
  rw [Bool.eq_iff_iff]
  simp only [Bool.not_eq_true', Bool.or_eq_false_iff, decide_eq_false_iff_not, Bool.not_eq_false', decide_eq_true_eq]
  constructor
  · rintro ⟨⟨⟨a, b⟩, c⟩, d⟩
    have f1 := c1.mp ⟨a, c⟩
    have f2 := c2.mp ⟨b, d⟩
    omega
  · intro hx'
    have f1 := c1.mpr (by omega)
    have f2 := c2.mpr (by omega)
    exact ⟨⟨⟨f1.1, f2.1⟩, f1.2⟩, f2.2⟩
theorem inL_iff (q : Rat) : inL q ↔ 0 ≤ q ∧ q < 64 := by
  unfold inL
  rw [Rat.le_iff, Rat.lt_iff]
  show _ ↔ (0 : Rat).num * q.den ≤ q.num * ((0 : Rat).den : Int) ∧ q.num * ((64 : Rat).den : Int) < (64 : Rat).num * q.den
  rw [show ((64 : Rat).den : Int) = 1 from rfl, show (64 : Rat).num = 64 from rfl, show ((0 : Rat).den : Int) = 1 from rfl, show (0 : Rat).num = 0 from rfl]
  omega
theorem box_in (ds : List Nat) (h : ∀ d ∈ ds, d < 4) : (0 ≤ (boxR ds).1 ∧ (boxR ds).1 + (boxR ds).2.2 ≤ 64) ∧ (0 ≤ (boxR ds).2.1 ∧ (boxR ds).2.1 + (boxR ds).2.2 ≤ 64) ∧ 0 < (boxR ds).2.2 := by
  have hl := spN_lt ds.length ds rfl h
  have lo : ∀ (c : Nat), 0 ≤ Rat.divInt (64 * (c : Int)) (2 ^ ds.length) := by
    intro c
    rw [← Rat.not_lt]
    intro z
    have hp : (0 : Int) < 2 ^ ds.length := Int.pow_pos (by decide)
    have hx := cross_num (t := 64 * (c : Int)) (b := 2 ^ ds.length) (by omega)
    have hn : (Rat.divInt (64 * (c : Int)) (2 ^ ds.length)).num < 0 := (num_neg_iff _).mp z
    have hd := den_pos (Rat.divInt (64 * (c : Int)) (2 ^ ds.length))
    have h1 : (Rat.divInt (64 * (c : Int)) (2 ^ ds.length)).num * 2 ^ ds.length < 0 := Int.mul_neg_of_neg_of_pos hn hp
    have h2 : 0 ≤ 64 * (c : Int) * (Rat.divInt (64 * (c : Int)) (2 ^ ds.length)).den := Int.mul_nonneg (by omega) (by omega)
    omega
  have hi : ∀ (c : Nat), c < 2 ^ ds.length → Rat.divInt (64 * (c : Int)) (2 ^ ds.length) + Rat.divInt 64 (2 ^ ds.length) ≤ 64 := by
    intro c hc
    rw [side_add, ← Rat.not_lt, lt_div]
    show ¬ (64 : Int) * 2 ^ ds.length < 64 * ((c : Int) + 1) * 1
    have : ((2 ^ ds.length : Nat) : Int) = 2 ^ ds.length := by simp
    omega
  have ps : 0 < Rat.divInt 64 (2 ^ ds.length) := by
    have : (0 : Rat) < Rat.divInt (64 * 1) (2 ^ ds.length) := by
      rw [lt_div]
      show (0 : Int) * 2 ^ ds.length < 64 * 1 * 1
      omega
    exact this
  exact ⟨⟨lo _, hi _ hl.1⟩, ⟨lo _, hi _ hl.2⟩, ps⟩
end PL

/-! Things that are looked at: words, rows, codes; texts in their order. -/
namespace PL
open PySem PySem.Spec PyProof.Rows L2
def asc (x : Str) : Bool := x.cps.toList.all fun c => decide (c < 128)
mutual
/-- data of no great size, nothing of the store in it (as far as tuples go) -/
def smP : Pv → Bool
  | .non => true | .bl _ => true | .int _ => true | .str x => decide (x.length ≤ 1000) && asc x | .tup xs => decide (xs.length ≤ 1000) && smPs xs | .lst _ => true | .dct _ _ => true | .scr _ => false | .ref _ => false | .ty _ => false
def smPs : List Pv → Bool
  | [] => true
  | x :: xs => smP x && smPs xs
end
mutual
theorem smP_ty : ∀ p : Pv, smP p = true → tyD p = true
  | .non, _ => rfl | .bl _, _ => rfl | .int _, _ => rfl | .str _, _ => rfl | .lst _, _ => rfl | .dct _ _, _ => rfl
  | .tup xs, h => by
    have h : decide (xs.length ≤ 1000) = true ∧ smPs xs = true := by simpa [smP] using h
    exact smPs_ty xs h.2
  | .scr _, h => by cases h
  | .ref _, h => by cases h
  | .ty _, h => by cases h
theorem smPs_ty : ∀ ps : List Pv, smPs ps = true → tyDs ps = true
  | [], _ => rfl
  | p :: ps, h => by
    have h : smP p = true ∧ smPs ps = true := by simpa [smPs] using h
    show (tyD p && tyDs ps) = true
    rw [smP_ty p h.1, smPs_ty ps h.2]; rfl
end
theorem smPs_mem : ∀ {ps : List Pv}, smPs ps = true → ∀ p ∈ ps, smP p = true
  | [], _, _, h => by cases h
  | q :: ps, h, p, hp => by
    have h : smP q = true ∧ smPs ps = true := by simpa [smPs] using h
    rcases List.mem_cons.mp hp with rfl | hp
    · exact h.1
    · exact smPs_mem h.2 p hp
theorem smP_tup {xs : List Pv} (h : smP (.tup xs) = true) : xs.length ≤ 1000 ∧ smPs xs = true := by simpa [smP] using h
theorem smP_str {x : Str} (h : smP (.str x) = true) : x.length ≤ 1000 := by
  have : decide (x.length ≤ 1000) = true ∧ asc x = true := by simpa [smP] using h
  exact of_decide_eq_true this.1
theorem smP_asc {x : Str} (h : smP (.str x) = true) : asc x = true := by
  have : decide (x.length ≤ 1000) = true ∧ asc x = true := by simpa [smP] using h
  exact this.2
/-! ### signs in texts -/
theorem in_one (c : Nat) (z : Str) : inTxt ⟨#[c]⟩ z = decide (c ∈ z.cps.toList) := StrLaws.found_one z c
def smallC (c : Nat) : Bool := decide (97 ≤ c) && decide (c ≤ 122)
def figC (c : Nat) : Bool := decide (48 ≤ c) && decide (c ≤ 51)
theorem in_small (c : Nat) : inTxt ⟨#[c]⟩ (Str.ofString "abcdefghijklmnopqrstuvwxyz") = smallC c := by
  rw [in_one, show (Str.ofString "abcdefghijklmnopqrstuvwxyz").cps.toList = [97, 98, 99, 100, 101, 102, 103, 104, 105, 106, 107, 108, 109, 110, 111, 112, 113, 114, 115, 116, 117, 118, 119, 120, 121, 122] from rfl]
  unfold smallC
  rw [Bool.eq_iff_iff]
  simp only [List.mem_cons, List.not_mem_nil, or_false, decide_eq_true_eq, Bool.and_eq_true]
  omega
theorem in_fig (c : Nat) : inTxt ⟨#[c]⟩ (Str.ofString "0123") = figC c := by
  rw [in_one, show (Str.ofString "0123").cps.toList = [48, 49, 50, 51] from rfl]
  unfold figC
  rw [Bool.eq_iff_iff]
  simp only [List.mem_cons, List.not_mem_nil, or_false, decide_eq_true_eq, Bool.and_eq_true]
  omega
theorem len_str {S : Sto} {x : Str} (h : x.length ≤ 1000) : lenP S (.str x) = some x.length := by
  show (if x.length ≤ sizeLine then some x.length else none) = _
  rw [if_pos (Nat.le_trans h (by decide))]
theorem chars_map (x : Str) : chars x = x.cps.toList.map fun c => .str ⟨#[c]⟩ := rfl
theorem chars_len (x : Str) : x.cps.toList.length = x.length := rfl
theorem cut_tail (xs : List Pv) : cutP xs (some 1) none = xs.tail := by
  unfold cutP
  cases xs with
  | nil => rfl
  | cons x xs =>
    have e1 : HT.sIx (x :: xs).length 0 (some 1) = 1 := by
      show _ = _
      simp [HT.sIx]
    have e2 : HT.sIx (x :: xs).length (x :: xs).length none = (x :: xs).length := rfl
    rw [e1, e2, List.drop_one]
    exact List.take_of_length_le (by simp)
theorem zipP_zip : ∀ xs ys : List Pv, zipP xs ys = (xs.zip ys).map fun p => .tup [p.1, p.2]
  | [], _ => rfl
  | _ :: _, [] => rfl
  | x :: xs, y :: ys => by
    show Pv.tup [x, y] :: zipP xs ys = _
    rw [zipP_zip xs ys]
    rfl
/-! ### words, days, codes -/
def wordS (x : Str) : Bool := (decide (1 ≤ x.length) && decide (x.length ≤ 8)) && x.cps.toList.all smallC
def wordP : Pv → Bool
  | .str x => wordS x
  | _ => false
def dayP : Pv → Bool
  | .int i => decide (0 ≤ i)
  | _ => false
def codeS (x : Str) : Bool := decide (x.length ≤ 9) && x.cps.toList.all figC
def codeP : Pv → Bool
  | .str x => codeS x
  | _ => false
def tupN (n : Nat) : Pv → Bool
  | .tup ys => decide (ys.length = n)
  | _ => false
def rowP (a b : Nat) (n : Nat) : Pv → Bool
  | .tup xs => (decide (a ≤ xs.length) && decide (xs.length ≤ b)) && xs.all (tupN n)
  | _ => false
/-- x < y, of texts and whole numbers -/
def ltP : Pv → Pv → Bool
  | .int i, .int j => decide (i < j)
  | .str a, .str b => strLt a b
  | .tup xs, .tup ys => PySem.W.dataLt (toD (.tup xs)) (toD (.tup ys))
  | _, _ => false
def kindS (xs : List Pv) : Prop := (∃ ss : List Str, xs = ss.map .str) ∨ ∃ is : List Int, xs = is.map .int
def risP (xs : List Pv) : Bool := (xs.zip xs.tail).all fun p => ltP p.1 p.2
/-- y begins with x -/
abbrev preS (x y : Str) : Bool := Txt.startswith y x
theorem preS_iff (x y : Str) : preS x y = true ↔ x.cps.toList <+: y.cps.toList := by
  unfold preS Txt.startswith
  rw [StrLaws.subAt_eq, List.drop_zero, Bool.and_eq_true, decide_eq_true_eq, beq_iff_eq]
  show 0 + x.cps.toList.length ≤ y.cps.toList.length ∧ y.cps.toList.take x.cps.toList.length = x.cps.toList ↔ _
  rw [List.prefix_iff_eq_take]
  constructor
  · rintro ⟨_, h⟩
    exact h.symm
  · intro h
    refine ⟨?_, h.symm⟩
    have := congrArg List.length h
    rw [List.length_take] at this
    omega
/-! ### texts in their order -/
theorem lex_pre : ∀ {p t y : List Nat}, p < y → ¬ p ++ t < y → p <+: y
  | [], _, _, _, _ => List.nil_prefix
  | a :: p, t, [], h, _ => absurd h (List.not_lt_nil _)
  | a :: p, t, b :: y, h, h2 => by
    rw [List.cons_lt_cons_iff] at h
    rw [List.cons_append, List.cons_lt_cons_iff] at h2
    rcases h with h | ⟨rfl, h⟩
    · exact absurd (.inl h) h2
    · have := lex_pre h fun z => h2 (.inr ⟨rfl, z⟩)
      exact List.cons_prefix_cons.mpr ⟨rfl, this⟩
theorem strLt_iff (a b : Str) : strLt a b = true ↔ a.cps.toList < b.cps.toList := decide_eq_true_iff
theorem strLt_trans {a b c : Str} (h : strLt a b = true) (h' : strLt b c = true) : strLt a c = true := by
  rw [strLt_iff] at *
  exact List.lt_trans h h'
theorem strLt_irr (a : Str) : strLt a a = false := by
  cases h : strLt a a with
  | false => rfl
  | true => exact absurd ((strLt_iff a a).mp h) (List.lt_irrefl _)
theorem str_ext {a b : Str} (h : a.cps.toList = b.cps.toList) : a = b := by
  cases a; cases b
  congr 1
  exact Array.toList_inj.mp h
/-- rising, and none the begin of a later one -/
def apart (a b : Str) : Bool := strLt a b && !preS a b
theorem apart_trans {a b c : Str} (h : apart a b = true) (h' : apart b c = true) : apart a c = true := by
  unfold apart at *
  simp only [Bool.and_eq_true, Bool.not_eq_true'] at *
  refine ⟨strLt_trans h.1 h'.1, ?_⟩
  cases q : preS a c with
  | false => rfl
  | true =>
    have h1 := (preS_iff a c).mp q
    obtain ⟨t, ht⟩ := h1
    have h2 := (strLt_iff a b).mp h.1
    have h3 := (strLt_iff b c).mp h'.1
    have : a.cps.toList <+: b.cps.toList := lex_pre (t := t) h2 (by
      rw [ht]
      exact fun z => List.lt_irrefl _ (List.lt_trans z h3))
    have := (preS_iff a b).mpr this
    rw [this] at h
    cases h.2
theorem adj_pw {α : Type} {r : α → α → Bool} (tr : ∀ a b c, r a b = true → r b c = true → r a c = true) : ∀ xs : List α, (xs.zip xs.tail).all (fun p => r p.1 p.2) = true ↔ xs.Pairwise fun a b => r a b = true
  | [] => by simp
  | [x] => by simp
  | x :: y :: zs => by
    have ih := adj_pw tr (y :: zs)
    show ((r x y && ((y :: zs).zip (y :: zs).tail).all fun p => r p.1 p.2) = true) ↔ _
    rw [Bool.and_eq_true, ih, List.pairwise_cons (a := x)]
    constructor
    · rintro ⟨h1, h2⟩
      refine ⟨fun z hz => ?_, h2⟩
      rcases List.mem_cons.mp hz with rfl | hz
      · exact h1
      · exact tr _ _ _ h1 ((List.pairwise_cons.mp h2).1 z hz)
    · rintro ⟨h1, h2⟩
      exact ⟨h1 y List.mem_cons_self, h2⟩
/-- the texts, sorted -/
def leS (a b : Str) : Bool := decide (a.cps.toList ≤ b.cps.toList)
def sortS (xs : List Str) : List Str := xs.mergeSort leS
theorem sortP_str (xs : List Str) : sortP (xs.map .str) = (sortS xs).map .str := by
  unfold sortP sortS
  rw [List.map_mergeSort (s := PySem.W.dataLe false toD) (f := Pv.str)]
  intro a _ b _
  have := congrFun (congrFun (PySem.W.dataLe_str (k := fun s : Str => s)) a) b
  exact this.symm
theorem leS_total (a b : Str) : (leS a b || leS b a) = true := by
  unfold leS
  rw [Bool.or_eq_true, decide_eq_true_eq, decide_eq_true_eq]
  exact List.le_total _ _
theorem leS_trans (a b c : Str) (h : leS a b = true) (h' : leS b c = true) : leS a c = true := by
  unfold leS at *
  rw [decide_eq_true_eq] at *
  exact List.le_trans h h'
theorem sortS_pw (xs : List Str) : (sortS xs).Pairwise fun a b => leS a b = true := List.pairwise_mergeSort leS_trans leS_total xs
theorem sortS_eq {xs : List Str} : sortS xs = xs ↔ xs.Pairwise fun a b => leS a b = true :=
  ⟨fun h => by rw [← h]; exact sortS_pw xs, fun h => List.mergeSort_of_pairwise h⟩
theorem leS_lt {a b : Str} (h : leS a b = true) (hn : a ≠ b) : strLt a b = true := by
  unfold leS at h
  rw [decide_eq_true_eq] at h
  rw [strLt_iff]
  apply Decidable.byContradiction
  intro z
  exact hn (str_ext (List.le_antisymm h (List.not_lt.mp z)))
theorem lt_leS {a b : Str} (h : strLt a b = true) : leS a b = true := by
  unfold leS
  rw [decide_eq_true_eq]
  rw [strLt_iff] at h
  exact List.le_of_lt h
/-- the same, looked at one by one -/
theorem apart_iff (xs : List Str) : (xs.Pairwise fun a b => apart a b = true) ↔ (xs.Pairwise fun a b => leS a b = true) ∧ ∀ c ∈ xs, xs.filter (preS c) = [c] := by
  have pr : ∀ a, preS a a = true := fun a => (preS_iff a a).mpr (List.prefix_refl _)
  constructor
  · intro h
    refine ⟨h.imp fun {a b} z => lt_leS (by unfold apart at z; exact (Bool.and_eq_true_iff.mp z).1), ?_⟩
    clear pr
    induction xs with
    | nil => intro c hc; cases hc
    | cons x xs ih =>
      intro c hc
      obtain ⟨h1, h2⟩ := List.pairwise_cons.mp h
      have pr : ∀ a, preS a a = true := fun a => (preS_iff a a).mpr (List.prefix_refl _)
      rcases List.mem_cons.mp hc with rfl | hc
      · rw [List.filter_cons_of_pos (pr c), List.filter_eq_nil_iff.mpr]
        intro b hb z
        have := h1 b hb
        unfold apart at this
        rw [z] at this
        simp at this
      · have hx : ¬ preS c x = true := by
          intro z
          have h3 := h1 c hc
          unfold apart at h3
          have h4 := (strLt_iff x c).mp (Bool.and_eq_true_iff.mp h3).1
          obtain ⟨t, ht⟩ := (preS_iff c x).mp z
          rw [← ht] at h4
          have : ¬ c.cps.toList ++ t < c.cps.toList := by
            clear h4 ht
            generalize c.cps.toList = l
            induction l with
            | nil => exact List.not_lt_nil _
            | cons a l ih =>
              rw [List.cons_append, List.cons_lt_cons_iff]
              rintro (z | ⟨_, z⟩)
              · omega
              · exact ih z
          exact this h4
        rw [List.filter_cons_of_neg hx]
        exact ih h2 c hc
  · rintro ⟨h1, h2⟩
    induction xs with
    | nil => exact .nil
    | cons x xs ih =>
      obtain ⟨h3, h4⟩ := List.pairwise_cons.mp h1
      have hx := h2 x List.mem_cons_self
      rw [List.filter_cons_of_pos (pr x)] at hx
      have hn : xs.filter (preS x) = [] := by simpa using hx
      have hn2 : ∀ b ∈ xs, ¬ preS x b = true := List.filter_eq_nil_iff.mp hn
      refine List.pairwise_cons.mpr ⟨fun b hb => ?_, ih h4 fun c hc => ?_⟩
      · unfold apart
        have := hn2 b hb
        rw [Bool.and_eq_true]
        refine ⟨leS_lt (h3 b hb) (fun e => this (by rw [e]; exact pr b)), ?_⟩
        simpa using this
      · have h5 := h2 c (List.mem_cons_of_mem _ hc)
        by_cases z : preS c x = true
        · rw [List.filter_cons_of_pos z] at h5
          have : x = c := (List.cons.inj h5).1
          subst this
          exact absurd (pr x) (hn2 x hc)
        · rw [List.filter_cons_of_neg z] at h5
          exact h5
/-! ### rows of codes -/
theorem allS_str : ∀ ss : List Str, allS (ss.map Pv.str) = some ss
  | [] => rfl
  | s :: ss => by
    show (allS (ss.map Pv.str)).map (s :: ·) = _
    rw [allS_str ss]; rfl
theorem allS_is : ∀ {xs : List Pv} {ss : List Str}, allS xs = some ss → xs = ss.map Pv.str
  | [], ss, h => by
    have : [] = ss := by simpa [allS] using h
    rw [← this]; rfl
  | .str x :: xs, ss, h => by
    simp only [allS, Option.map_eq_some_iff] at h
    obtain ⟨ts, e, rfl⟩ := h
    rw [allS_is e]; rfl
  | .non :: _, _, h => by simp [allS] at h
  | .bl _ :: _, _, h => by simp [allS] at h
  | .int _ :: _, _, h => by simp [allS] at h
  | .tup _ :: _, _, h => by simp [allS] at h
  | .lst _ :: _, _, h => by simp [allS] at h
  | .scr _ :: _, _, h => by simp [allS] at h
  | .dct _ _ :: _, _, h => by simp [allS] at h
  | .ref _ :: _, _, h => by simp [allS] at h
  | .ty _ :: _, _, h => by simp [allS] at h
def isStrP : Pv → Bool
  | .str _ => true
  | _ => false
theorem allS_none : ∀ {xs : List Pv}, allS xs = none ↔ xs.all isStrP = false
  | [] => by simp [allS]
  | .str x :: xs => by
    have ih := allS_none (xs := xs)
    simp only [allS, Option.map_eq_none_iff, List.all_cons, isStrP, Bool.true_and]
    exact ih
  | .non :: _ => by simp [allS, isStrP]
  | .bl _ :: _ => by simp [allS, isStrP]
  | .int _ :: _ => by simp [allS, isStrP]
  | .tup _ :: _ => by simp [allS, isStrP]
  | .lst _ :: _ => by simp [allS, isStrP]
  | .scr _ :: _ => by simp [allS, isStrP]
  | .dct _ _ :: _ => by simp [allS, isStrP]
  | .ref _ :: _ => by simp [allS, isStrP]
  | .ty _ :: _ => by simp [allS, isStrP]
def codeN (n : Nat) (x : Str) : Bool := codeS x && decide (x.length ≤ n)
def codesS (n : Nat) (ss : List Str) : Bool := ss.all (codeN n) && (ss.zip ss.tail).all fun p => apart p.1 p.2
def codesP (n : Nat) : Pv → Bool
  | .tup xs => match allS xs with
    | some ss => codesS n ss
    | none => false
  | _ => false
def codeNP (n : Nat) : Pv → Bool
  | .str x => codeN n x
  | _ => false
theorem bl_list {α : Type} {S : Sto} {f : α → Bool} {xs : List α} : (rdL S (.lst (xs.map fun x => Pv.bl (f x)))).bind allBl = some (xs.map f) := by
  show (some (xs.map fun x => Pv.bl (f x))).bind allBl = _
  rw [Option.bind_some, allBl_map]
theorem any_i {α : Type} {S : Sto} {Q : QV} {f : α → Bool} {xs : List α} (q : Q (.bl (xs.any f)) S) : oAny [.lst (xs.map fun x => .bl (f x))] S Q := by
  show match (some (xs.map fun x => Pv.bl (f x))).bind allBl with | some bs => Q (.bl (bs.any id)) S | none => False
  rw [Option.bind_some, allBl_map]
  show Q (.bl ((xs.map f).any id)) S
  rw [List.any_map]
  exact q
theorem all_j {α : Type} {S : Sto} {Q : QV} {f : α → Bool} {xs : List α} (q : Q (.bl (xs.all f)) S) : oAll [.lst (xs.map fun x => .bl (f x))] S Q := all_i (by rw [List.all_map]; exact q)
theorem risP_str (ss : List Str) : risP (ss.map .str) = (ss.zip ss.tail).all fun p => strLt p.1 p.2 := by
  unfold risP
  rw [← List.map_tail, List.zip_map, List.all_map]
  rfl
theorem adj_apart (ss : List Str) : (ss.zip ss.tail).all (fun p => apart p.1 p.2) = ((ss.zip ss.tail).all (fun p => strLt p.1 p.2) && !(ss.zip ss.tail).any fun p => preS p.1 p.2) := by
  unfold apart
  generalize ss.zip ss.tail = ps
  induction ps with
  | nil => rfl
  | cons p ps ih =>
    rw [List.all_cons, List.all_cons, List.any_cons, ih]
    cases strLt p.1 p.2 <;> cases preS p.1 p.2 <;> simp
end PL

/-! Things: their size, whether they can be shown and compared. -/
namespace PL
open PySem PySem.Spec PyProof.Rows L2
mutual
/-- fit to be shown: texts of plain signs, whole numbers of no great size, dicts empty -/
def fine : Pv → Bool
  | .non => true | .bl _ => true | .int i => decide (i.natAbs.log2 < 1900) | .str x => asc x | .tup xs => fines xs | .lst xs => fines xs | .dct ks vs => ks.isEmpty && vs.isEmpty | .scr _ => false | .ref _ => false | .ty _ => false
def fines : List Pv → Bool
  | [] => true
  | x :: xs => fine x && fines xs
end
mutual
/-- no less than the length of its text -/
def wt : Pv → Nat
  | .non => 5 | .bl _ => 5 | .int i => i.natAbs.log2 + 4 | .str x => 10 * x.length + 2 | .tup xs => wts xs + 3 | .lst xs => wts xs + 3 | .dct _ _ => 5 | .scr _ => 0 | .ref _ => 0 | .ty _ => 0
def wts : List Pv → Nat
  | [] => 0
  | x :: xs => wt x + 2 + wts xs
end
mutual
def dpP : Pv → Nat
  | .tup xs => dpPs xs + 1 | .lst xs => dpPs xs + 1 | .dct _ _ => 1 | .non => 0 | .bl _ => 0 | .int _ => 0 | .str _ => 0 | .scr _ => 0 | .ref _ => 0 | .ty _ => 0
def dpPs : List Pv → Nat
  | [] => 0
  | x :: xs => max (dpP x) (dpPs xs)
end
theorem asc_lt {x : Str} (h : asc x = true) : ∀ c ∈ x.cps.toList, c < 128 := fun c hc => of_decide_eq_true (List.all_eq_true.mp h c hc)
theorem int_shown (i : Int) (h : i.natAbs.log2 < 1900) : Sh (i.natAbs.log2 + 4) 0 (.int i) := by
  have h2 : i.natAbs < 2 ^ (i.natAbs.log2 + 1) := by
    by_cases h0 : i.natAbs = 0
    · rw [h0]; decide
    · exact Nat.lt_log2_self
  have := Sh.int (n := i.natAbs.log2 + 1) (d := 0) h2 (by omega)
  exact this.up (by omega) (Nat.le_refl _)
mutual
theorem shown_le : ∀ p : Pv, fine p = true → (toD p).showable = true ∧ (toD p).shown.length ≤ wt p ∧ (toD p).depth ≤ dpP p
  | .non, _ => ⟨rfl, by decide, Nat.le_refl _⟩
  | .bl b, _ => ⟨rfl, by cases b <;> decide, Nat.le_refl _⟩
  | .int i, h => by
    have h : i.natAbs.log2 < 1900 := of_decide_eq_true h
    have := int_shown i h
    exact ⟨this.2.1, this.2.2.1, Nat.le_refl _⟩
  | .str x, h => by
    have hx := Sh.str (d := 0) (Nat.le_refl x.length) fun c hc => Nat.lt_trans (asc_lt h c hc) (by decide)
    exact ⟨hx.2.1, hx.2.2.1, Nat.le_refl _⟩
  | .tup xs, h => by
    obtain ⟨h1, h2, h3⟩ := shownAll_le xs h
    exact ⟨h1, Nat.le_trans (tupText_le _) (Nat.add_le_add_right h2 3), Nat.succ_le_succ h3⟩
  | .lst xs, h => by
    obtain ⟨h1, h2, h3⟩ := shownAll_le xs h
    exact ⟨h1, Nat.le_trans (listText_le _) (Nat.add_le_add h2 (by decide)), Nat.succ_le_succ h3⟩
  | .dct ks vs, h => ⟨rfl, show (PyData.dict []).shown.length ≤ 5 by decide, show (PyData.dict []).depth ≤ 1 by decide⟩
  | .scr _, h => by cases h
  | .ref _, h => by cases h
  | .ty _, h => by cases h
theorem shownAll_le : ∀ ps : List Pv, fines ps = true → PyData.showableAll (toDs ps) = true ∧ piled (PyData.shownAll (toDs ps)) ≤ wts ps ∧ PyData.depthAll (toDs ps) ≤ dpPs ps
  | [], _ => ⟨rfl, Nat.le_refl _, Nat.le_refl _⟩
  | p :: ps, h => by
    have h : fine p = true ∧ fines ps = true := by simpa [fines] using h
    obtain ⟨a1, a2, a3⟩ := shown_le p h.1
    obtain ⟨b1, b2, b3⟩ := shownAll_le ps h.2
    refine ⟨?_, ?_, ?_⟩
    · show ((toD p).showable && PyData.showableAll (toDs ps)) = true
      rw [a1, b1]; rfl
    · show piled ((toD p).shown :: PyData.shownAll (toDs ps)) ≤ wt p + 2 + wts ps
      rw [piled_cons]
      omega
    · show max (toD p).depth (PyData.depthAll (toDs ps)) ≤ max (dpP p) (dpPs ps)
      omega
end
/-- a thing that a law hands in -/
structure Thing (n d : Nat) (p : Pv) : Prop where
  sm : smP p = true
  fn : fine p = true
  wt : wt p ≤ n
  dp : dpP p ≤ d
theorem Thing.up {n m d e : Nat} {p : Pv} (h : Thing n d p) (l : n ≤ m) (l' : d ≤ e) : Thing m e p := ⟨h.sm, h.fn, Nat.le_trans h.wt l, Nat.le_trans h.dp l'⟩
theorem Thing.ok {n d : Nat} {p : Pv} (h : Thing n d p) (de : (isD p || isE p) = true) (l : n ≤ 16000000) (l' : d ≤ 60) : okR p := by
  obtain ⟨h1, h2, h3⟩ := shown_le p h.fn
  exact ⟨de, h1, Nat.le_trans (Nat.le_trans h3 h.dp) l', Nat.le_trans (Nat.le_trans (Nat.le_trans h2 h.wt) l) (by decide)⟩
/-- several of them -/
structure Things (n d : Nat) (ps : List Pv) : Prop where
  sm : smPs ps = true
  fn : fines ps = true
  wt : wts ps ≤ n
  dp : dpPs ps ≤ d
theorem Things.nil {n d : Nat} : Things n d [] := ⟨rfl, rfl, Nat.zero_le _, Nat.zero_le _⟩
theorem Things.cons {n m d : Nat} {p : Pv} {ps : List Pv} (h : Thing n d p) (h' : Things m d ps) : Things (n + 2 + m) d (p :: ps) := by
  refine ⟨?_, ?_, ?_, ?_⟩
  · show (smP p && smPs ps) = true; rw [h.sm, h'.sm]; rfl
  · show (fine p && fines ps) = true; rw [h.fn, h'.fn]; rfl
  · show PL.wt p + 2 + wts ps ≤ _
    have := h.wt
    have := h'.wt
    omega
  · show max (dpP p) (dpPs ps) ≤ _
    have := h.dp
    have := h'.dp
    omega
theorem Things.uncons {n d : Nat} {p : Pv} {ps : List Pv} (h : Things n d (p :: ps)) : Thing n d p ∧ Things n d ps ∧ PL.wt p + 2 + wts ps ≤ n := by
  obtain ⟨h1, h2, h3, h4⟩ := h
  have h1 : smP p = true ∧ smPs ps = true := by simpa [smPs] using h1
  have h2 : fine p = true ∧ fines ps = true := by simpa [fines] using h2
  have h3 : PL.wt p + 2 + wts ps ≤ n := h3
  have h4 : max (dpP p) (dpPs ps) ≤ d := h4
  exact ⟨⟨h1.1, h2.1, by omega, by omega⟩, ⟨h1.2, h2.2, by omega, by omega⟩, h3⟩
theorem Things.up {n m d e : Nat} {ps : List Pv} (h : Things n d ps) (l : n ≤ m) (l' : d ≤ e) : Things m e ps := ⟨h.sm, h.fn, Nat.le_trans h.wt l, Nat.le_trans h.dp l'⟩
theorem Things.app {d : Nat} : ∀ {n m : Nat} {ps qs : List Pv}, Things n d ps → Things m d qs → Things (n + m) d (ps ++ qs)
  | n, m, [], qs, _, h => h.up (by omega) (Nat.le_refl _)
  | n, m, p :: ps, qs, h, h' => by
    obtain ⟨a, b, c⟩ := h.uncons
    have b' : Things (wts ps) d ps := ⟨b.sm, b.fn, Nat.le_refl _, b.dp⟩
    have a' : Thing (PL.wt p) d p := ⟨a.sm, a.fn, Nat.le_refl _, a.dp⟩
    exact (Things.cons a' (Things.app b' h')).up (by omega) (Nat.le_refl _)
theorem Things.take {d : Nat} : ∀ {n : Nat} {ps : List Pv} (k : Nat), Things n d ps → Things n d (ps.take k)
  | n, [], k, h => by rw [List.take_nil]; exact h
  | n, p :: ps, 0, h => Things.nil
  | n, p :: ps, k + 1, h => by
    obtain ⟨a, b, c⟩ := h.uncons
    have b' : Things (wts ps) d ps := ⟨b.sm, b.fn, Nat.le_refl _, b.dp⟩
    have a' : Thing (PL.wt p) d p := ⟨a.sm, a.fn, Nat.le_refl _, a.dp⟩
    exact (Things.cons a' (b'.take k)).up (by omega) (Nat.le_refl _)
theorem Things.drop {d : Nat} : ∀ {n : Nat} {ps : List Pv} (k : Nat), Things n d ps → Things n d (ps.drop k)
  | n, [], k, h => by rw [List.drop_nil]; exact h
  | n, p :: ps, 0, h => h
  | n, p :: ps, k + 1, h => by
    obtain ⟨a, b, c⟩ := h.uncons
    exact (b.drop k)
theorem Things.mem {d : Nat} : ∀ {n : Nat} {ps : List Pv}, Things n d ps → ∀ p ∈ ps, Thing n d p
  | n, [], h, p, hp => by cases hp
  | n, q :: ps, h, p, hp => by
    obtain ⟨a, b, c⟩ := h.uncons
    rcases List.mem_cons.mp hp with rfl | hp
    · exact a
    · exact b.mem p hp
theorem Things.of {n d : Nat} : ∀ {ps : List Pv}, (∀ p ∈ ps, Thing n d p) → Things ((n + 2) * ps.length) d ps
  | [], _ => Things.nil
  | p :: ps, h => (Things.cons (h p List.mem_cons_self) (Things.of fun q hq => h q (List.mem_cons_of_mem _ hq))).up (by rw [List.length_cons, Nat.mul_succ]; omega) (Nat.le_refl _)
theorem Thing.tup {n d : Nat} {ps : List Pv} (h : Things n d ps) (l : ps.length ≤ 1000) : Thing (n + 3) (d + 1) (.tup ps) := by
  refine ⟨?_, h.fn, Nat.add_le_add_right h.wt 3, Nat.succ_le_succ h.dp⟩
  show (decide (ps.length ≤ 1000) && smPs ps) = true
  rw [decide_eq_true l, h.sm]; rfl
theorem Thing.lst {n d : Nat} {ps : List Pv} (h : Things n d ps) : Thing (n + 3) (d + 1) (.lst ps) := ⟨rfl, h.fn, Nat.add_le_add_right h.wt 3, Nat.succ_le_succ h.dp⟩
theorem Thing.un {n d : Nat} {ps : List Pv} (h : Thing n (d + 1) (.tup ps)) : Things n d ps ∧ ps.length ≤ 1000 := by
  obtain ⟨h1, h2, h3, h4⟩ := h
  obtain ⟨a, b⟩ := smP_tup h1
  have h3 : wts ps + 3 ≤ n := h3
  exact ⟨⟨b, h2, by omega, Nat.le_of_succ_le_succ h4⟩, a⟩
theorem Thing.str {n d : Nat} {x : Str} (h : asc x = true) (l : x.length ≤ n) (l2 : n ≤ 1000) : Thing (10 * n + 2) d (.str x) := by
  refine ⟨?_, h, ?_, Nat.zero_le _⟩
  · show (decide (x.length ≤ 1000) && asc x) = true
    rw [h, decide_eq_true (show x.length ≤ 1000 by omega)]; rfl
  · show 10 * x.length + 2 ≤ _
    omega
theorem Thing.int {n d : Nat} {i : Int} (h : szI n i) (l : n ≤ 1800) : Thing (n + 4) d (.int i) := by
  have hl : i.natAbs.log2 < n + 1 := PySem.Flt.log2_lt_of (Nat.succ_pos n) (h.up (Nat.le_succ n))
  exact ⟨rfl, decide_eq_true (show i.natAbs.log2 < 1900 by omega), show i.natAbs.log2 + 4 ≤ n + 4 by omega, Nat.zero_le _⟩
/-! ### data that are compared -/
theorem isDs_iff : ∀ {ps : List Pv}, isDs ps = true ↔ ∀ p ∈ ps, isD p = true
  | [] => by simp [isDs]
  | p :: ps => by
    have ih := isDs_iff (ps := ps)
    simp only [isDs, Bool.and_eq_true, ih, List.mem_cons, forall_eq_or_imp]
theorem isEs_iff : ∀ {ps : List Pv}, isEs ps = true ↔ ∀ p ∈ ps, isE p = true
  | [] => by simp [isEs]
  | p :: ps => by
    have ih := isEs_iff (ps := ps)
    simp only [isEs, Bool.and_eq_true, ih, List.mem_cons, forall_eq_or_imp]
theorem asc_ok {x : Str} (h : asc x = true) : PyData.strOk x = true := by
  unfold PyData.strOk
  rw [Array.all_eq_true']
  intro c hc
  exact decide_eq_true (Nat.lt_trans (asc_lt h c (by simpa using hc)) (by decide))
mutual
theorem lay_of : ∀ p : Pv, isD p = true → fine p = true → PyData.canLay0 (toD p) = true
  | .non, _, _ => rfl
  | .bl _, _, _ => rfl
  | .int _, _, _ => rfl
  | .str x, _, h => asc_ok h
  | .tup xs, d, h => lays_of xs d h
  | .lst xs, d, h => lays_of xs d h
  | .scr _, _, h => by cases h
  | .dct _ _, d, _ => by cases d
  | .ref _, d, _ => by cases d
  | .ty _, d, _ => by cases d
theorem lays_of : ∀ ps : List Pv, isDs ps = true → fines ps = true → PyData.canLayAll0 (toDs ps) = true
  | [], _, _ => rfl
  | p :: ps, d, h => by
    have d : isD p = true ∧ isDs ps = true := by simpa [isDs] using d
    have h : fine p = true ∧ fines ps = true := by simpa [fines] using h
    show (PyData.canLay0 (toD p) && PyData.canLayAll0 (toDs ps)) = true
    rw [lay_of p d.1 h.1, lays_of ps d.2 h.2]; rfl
end
theorem okD_of {p : Pv} (d : isD p = true) (h : fine p = true) (l : dpP p ≤ 60) : okD p = true := by
  unfold okD SeqAt.shaped
  rw [d, lay_of p d h, decide_eq_true (Nat.le_trans (shown_le p h).2.2 (Nat.le_trans l (by decide)))]
  rfl
theorem eqv_nilT (ds : List PyData) : PyData.eqv (.tuple ds) (.tuple []) = ds.isEmpty := by
  cases ds <;> rfl
/-! ### lists of texts, of whole numbers -/
theorem fines_chars : ∀ cs : List Nat, (∀ c ∈ cs, c < 128) → fines (cs.map fun c => Pv.str ⟨#[c]⟩) = true
  | [], _ => rfl
  | c :: cs, h => by
    show (asc ⟨#[c]⟩ && fines (cs.map fun c => Pv.str ⟨#[c]⟩)) = true
    rw [fines_chars cs fun d hd => h d (List.mem_cons_of_mem _ hd), Bool.and_true]
    show (decide (c < 128) && true) = true
    rw [decide_eq_true (h c List.mem_cons_self)]; rfl
theorem dpPs_flat {α : Type} {f : α → Pv} (h : ∀ x, dpP (f x) = 0) : ∀ xs : List α, dpPs (xs.map f) = 0
  | [] => rfl
  | x :: xs => by show max (dpP (f x)) (dpPs (xs.map f)) = 0; rw [h x, dpPs_flat h xs]; rfl
theorem okD_chars {cs : List Nat} (h : ∀ c ∈ cs, c < 128) : okD (.lst (cs.map fun c => Pv.str ⟨#[c]⟩)) = true := by
  refine okD_of (isDs_map (fun _ => rfl) cs) (fines_chars cs h) ?_
  show dpPs (cs.map fun c => Pv.str ⟨#[c]⟩) + 1 ≤ 60
  rw [dpPs_flat (fun _ => rfl)]; decide
theorem fines_str : ∀ ss : List Str, (∀ s ∈ ss, asc s = true) → fines (ss.map Pv.str) = true
  | [], _ => rfl
  | s :: ss, h => by
    show (asc s && fines (ss.map Pv.str)) = true
    rw [h s List.mem_cons_self, fines_str ss fun t ht => h t (List.mem_cons_of_mem _ ht)]; rfl
theorem okD_lstr {ss : List Str} (h : ∀ s ∈ ss, asc s = true) : okD (.lst (ss.map Pv.str)) = true := by
  refine okD_of (isDs_map (fun _ => rfl) ss) (fines_str ss h) ?_
  show dpPs (ss.map Pv.str) + 1 ≤ 60
  rw [dpPs_flat (fun _ => rfl)]; decide
theorem lay_ints : ∀ is : List Int, PyData.canLayAll0 (toDs (is.map Pv.int)) = true
  | [] => rfl
  | i :: is => by show (true && PyData.canLayAll0 (toDs (is.map Pv.int))) = true; rw [lay_ints is]; rfl
theorem dep_ints : ∀ is : List Int, PyData.depthAll (toDs (is.map Pv.int)) = 0
  | [] => rfl
  | i :: is => by show max 0 (PyData.depthAll (toDs (is.map Pv.int))) = 0; rw [dep_ints is]; rfl
theorem okD_lint (is : List Int) : okD (.lst (is.map Pv.int)) = true := by
  unfold okD SeqAt.shaped
  have h1 : isD (.lst (is.map Pv.int)) = true := isDs_map (fun _ => rfl) is
  have h2 : PyData.canLay0 (toD (.lst (is.map Pv.int))) = true := lay_ints is
  have h3 : PyData.depth (toD (.lst (is.map Pv.int))) = 1 := by show PyData.depthAll (toDs (is.map Pv.int)) + 1 = 1; rw [dep_ints]
  rw [h1, h2, h3]; rfl
theorem eqv_lstr : ∀ a b : List Str, PyData.eqvAll (toDs (a.map Pv.str)) (toDs (b.map Pv.str)) = decide (a = b)
  | [], [] => rfl
  | [], _ :: _ => rfl
  | _ :: _, [] => rfl
  | x :: a, y :: b => by
    show ((x == y) && PyData.eqvAll (toDs (a.map Pv.str)) (toDs (b.map Pv.str))) = _
    rw [eqv_lstr a b, Bool.eq_iff_iff]
    simp
theorem eqv_lint : ∀ a b : List Int, PyData.eqvAll (toDs (a.map Pv.int)) (toDs (b.map Pv.int)) = decide (a = b)
  | [], [] => rfl
  | [], _ :: _ => rfl
  | _ :: _, [] => rfl
  | x :: a, y :: b => by
    show ((x == y) && PyData.eqvAll (toDs (a.map Pv.int)) (toDs (b.map Pv.int))) = _
    rw [eqv_lint a b, Bool.eq_iff_iff]
    simp
def sortI (xs : List Int) : List Int := xs.mergeSort fun a b => decide (a ≤ b)
theorem sortP_int (xs : List Int) : sortP (xs.map .int) = (sortI xs).map .int := by
  unfold sortP sortI
  rw [List.map_mergeSort (s := PySem.W.dataLe false toD) (f := Pv.int)]
  intro a _ b _
  have := congrFun (congrFun (PySem.W.dataLe_int (k := fun s : Int => s)) a) b
  exact this.symm
theorem sortI_eq {xs : List Int} : sortI xs = xs ↔ xs.Pairwise fun a b => a ≤ b := by
  have tr : ∀ a b c : Int, decide (a ≤ b) = true → decide (b ≤ c) = true → decide (a ≤ c) = true := by
    intro a b c h h'
    rw [decide_eq_true_eq] at *
    omega
  have to : ∀ a b : Int, (decide (a ≤ b) || decide (b ≤ a)) = true := by
    intro a b
    rw [Bool.or_eq_true, decide_eq_true_eq, decide_eq_true_eq]
    omega
  constructor
  · intro h
    rw [← h]
    exact (List.pairwise_mergeSort tr to xs).imp fun {a b} z => of_decide_eq_true z
  · intro h
    exact List.mergeSort_of_pairwise (h.imp fun {a b} z => decide_eq_true z)
theorem sortI_pw (xs : List Int) : (sortI xs).Pairwise fun a b => a ≤ b := by
  have tr : ∀ a b c : Int, decide (a ≤ b) = true → decide (b ≤ c) = true → decide (a ≤ c) = true := by
    intro a b c h h'
    rw [decide_eq_true_eq] at *
    omega
  have to : ∀ a b : Int, (decide (a ≤ b) || decide (b ≤ a)) = true := by
    intro a b
    rw [Bool.or_eq_true, decide_eq_true_eq, decide_eq_true_eq]
    omega
  exact (List.pairwise_mergeSort tr to xs).imp fun {a b} z => of_decide_eq_true z
/-! ### the other pen: a number and a mark -/
def Pn2 (m : Mo) : Prop := ∃ d f : Int, m = .lst [.int d, .int f] ∧ 0 ≤ d
theorem ix2_0 : ixN 2 0 = some 0 := rfl
theorem ix2_1 : ixN 2 1 = some 1 := rfl
end PL

/-! Moves: plain. -/
namespace PL
open PySem PySem.Spec PyProof.Rows L2
def neT : Pv → Bool
  | .tup [] => false
  | _ => true
def mvQ : Pv → Bool
  | .tup [d, c, r] => dayP d && ((codesP 4 c && neT c) && wordP r)
  | _ => false
def dayI : Pv → Int
  | .tup (.int d :: _) => d
  | _ => 0
def nonfall (is : List Int) : Bool := (is.zip is.tail).all fun p => decide (p.1 ≤ p.2)
def movesP : Pv → Bool
  | .tup ms => decide (ms.length ≤ 24) && (ms.all mvQ && nonfall (ms.map dayI))
  | _ => false
def tup3 (t : Pv × Pv × Pv) : Pv := .tup [t.1, t.2.1, t.2.2]
theorem tup3_of : ∀ {ms : List Pv}, ms.all (tupN 3) = true → ∃ ts : List (Pv × Pv × Pv), ms = ts.map tup3
  | [], _ => ⟨[], rfl⟩
  | m :: ms, h => by
    have h : tupN 3 m = true ∧ ms.all (tupN 3) = true := by simpa using h
    obtain ⟨ts, rfl⟩ := tup3_of h.2
    cases m with
    | tup ys =>
      match ys, h.1 with
      | [a, b, c], _ => exact ⟨(a, b, c) :: ts, rfl⟩
      | [], h => simp [tupN] at h
      | [_], h => simp [tupN] at h
      | [_, _], h => simp [tupN] at h
      | _ :: _ :: _ :: _ :: _, h => simp [tupN] at h
    | _ => simp [tupN] at h
theorem mvQ_3 {m : Pv} (h : mvQ m = true) : tupN 3 m = true := by
  cases m with
  | tup ys =>
    match ys, h with
    | [a, b, c], _ => rfl
    | [], h => cases h
    | [_], h => cases h
    | [_, _], h => cases h
    | _ :: _ :: _ :: _ :: _, h => cases h
  | _ => cases h
theorem codes_strs {n : Nat} {c : Pv} (h : codesP n c = true) : ∃ ss : List Str, c = .tup (ss.map .str) ∧ codesS n ss = true := by
  cases c with
  | tup xs =>
    have h : (match allS xs with | some ss => codesS n ss | none => false) = true := h
    cases hS : allS xs with
    | none => rw [hS] at h; cases h
    | some ss => rw [hS] at h; exact ⟨ss, by rw [allS_is hS], h⟩
  | _ => cases h
theorem fines_strs : ∀ ss : List Str, (∀ s ∈ ss, asc s = true) → fines (ss.map Pv.str) = true
  | [], _ => rfl
  | s :: ss, h => by
    show (asc s && fines (ss.map Pv.str)) = true
    rw [h s List.mem_cons_self, fines_strs ss fun t ht => h t (List.mem_cons_of_mem _ ht)]; rfl
theorem dpPs_strs : ∀ ss : List Str, dpPs (ss.map Pv.str) = 0
  | [] => rfl
  | s :: ss => by show max 0 (dpPs (ss.map Pv.str)) = 0; rw [dpPs_strs ss]; rfl
theorem okD_strs {ss : List Str} (h : smP (.tup (ss.map .str)) = true) : okD (.tup (ss.map .str)) = true := by
  obtain ⟨_, hs⟩ := smP_tup h
  refine okD_of (isDs_map (fun _ => rfl) ss) (fines_strs ss fun s hs2 => smP_asc (smPs_mem hs (.str s) (List.mem_map.mpr ⟨s, hs2, rfl⟩))) ?_
  show dpPs (ss.map Pv.str) + 1 ≤ 60
  rw [dpPs_strs]; decide
/-- a thing, plain, if it is a tuple -/
def plainT (x : Pv) : Prop := smP x = true ∧ (isD x = true ∧ fine x = true ∧ dpP x ≤ 60 ∨ x = .dct [] [])
theorem asc_mem {ss : List Str} (h : smP (.tup (ss.map .str)) = true) : ∀ s ∈ ss, asc s = true ∧ s.length ≤ 1000 := by
  intro s hs
  have := smPs_mem (smP_tup h).2 (.str s) (List.mem_map.mpr ⟨s, hs, rfl⟩)
  exact ⟨smP_asc this, smP_str this⟩
theorem empty_all (l : List Nat) (f : Nat → Bool) : (toDs ((l.filter fun c => !f c).map fun c => Pv.str ⟨#[c]⟩)).isEmpty = l.all f := by
  rw [toDs_map, List.isEmpty_map, List.isEmpty_map]
  induction l with
  | nil => rfl
  | cons c l ih =>
    rw [List.all_cons, List.filter_cons]
    cases f c with
    | true => simpa using ih
    | false => rfl
theorem plains {n : Nat} : ∀ {xs : List Pv}, isDs xs = true → fines xs = true → dpPs xs ≤ n → ∀ y ∈ xs, isD y = true ∧ fine y = true ∧ dpP y ≤ n
  | [], _, _, _, y, hy => by cases hy
  | x :: xs, d, f, p, y, hy => by
    have d : isD x = true ∧ isDs xs = true := by simpa [isDs] using d
    have f : fine x = true ∧ fines xs = true := by simpa [fines] using f
    have p : max (dpP x) (dpPs xs) ≤ n := p
    rcases List.mem_cons.mp hy with rfl | hy
    · exact ⟨d.1, f.1, by omega⟩
    · exact plains d.2 f.2 (by omega) y hy
theorem plain_un {xs : List Pv} (h : plainT (.tup xs)) : xs.length ≤ 1000 ∧ ∀ y ∈ xs, plainT y := by
  obtain ⟨h1, h2⟩ := h
  obtain ⟨hl, hs⟩ := smP_tup h1
  refine ⟨hl, fun y hy => ⟨smPs_mem hs y hy, ?_⟩⟩
  rcases h2 with ⟨d, f, p⟩ | h2
  · left
    have p : dpPs xs + 1 ≤ 60 := p
    obtain ⟨a, b, c⟩ := plains (n := 59) d f (by omega) y hy
    exact ⟨a, b, by omega⟩
  · cases h2
theorem nonfall_iff (is : List Int) : nonfall is = decide (is = sortI is) := by
  have e := adj_pw (r := fun a b : Int => decide (a ≤ b)) (fun a b c h h' => by rw [decide_eq_true_eq] at *; omega) is
  unfold nonfall
  rw [Bool.eq_iff_iff, e, decide_eq_true_eq]
  constructor
  · intro z
    exact (sortI_eq.mpr (z.imp fun {a b} w => of_decide_eq_true w)).symm
  · intro z
    exact (sortI_eq.mp z.symm).imp fun {a b} w => decide_eq_true w
theorem codeN_cd {n : Nat} {ds : List Nat} (h4 : ∀ d ∈ ds, d < 4) (hl : ds.length ≤ n) (h9 : n ≤ 9) : codeN n (cdS ds) = true := by
  unfold codeN codeS
  rw [cd_len, decide_eq_true (show ds.length ≤ 9 by omega), decide_eq_true hl]
  have : (cdS ds).cps.toList.all figC = true := by
    show (ds.map (· + 48)).all figC = true
    rw [List.all_map]
    refine List.all_eq_true.mpr fun d hd => ?_
    have := h4 d hd
    show (decide (48 ≤ d + 48) && decide (d + 48 ≤ 51)) = true
    rw [decide_eq_true (by omega), decide_eq_true (by omega)]; rfl
  rw [this]; rfl
theorem codeN_asc {n : Nat} {x : Str} (h : codeN n x = true) : asc x = true ∧ x.length ≤ n ∧ x.length ≤ 9 := by
  unfold codeN codeS at h
  simp only [Bool.and_eq_true, decide_eq_true_eq] at h
  refine ⟨List.all_eq_true.mpr fun c hc => ?_, h.2, h.1.1⟩
  have := List.all_eq_true.mp h.1.2 c hc
  unfold figC at this
  simp only [Bool.and_eq_true, decide_eq_true_eq] at this
  exact decide_eq_true (by omega)
def nbr (a b : Str) : Prop := preS a b = false ∧ preS b a = false
theorem apart_of {ss : List Str} (h : ss.Pairwise nbr) : (sortS ss).Pairwise fun a b => apart a b = true := by
  have h1 := sortS_pw ss
  have h2 : (sortS ss).Pairwise nbr := ((List.mergeSort_perm ss leS).pairwise_iff fun {a b} z => ⟨z.2, z.1⟩).mpr h
  refine (h1.and h2).imp fun {a b} z => ?_
  unfold apart
  rw [z.2.1, leS_lt z.1 (fun e => by
    have := z.2.1
    rw [e] at this
    rw [(preS_iff b b).mpr (List.prefix_refl _)] at this
    cases this)]
  rfl
mutual
/-- tuples of at most a hundred -/
def shP : Pv → Bool
  | .tup xs => decide (xs.length ≤ 100) && shPs xs
  | .non => true | .bl _ => true | .int _ => true | .str _ => true | .lst _ => true | .dct _ _ => true | .scr _ => true | .ref _ => true | .ty _ => true
def shPs : List Pv → Bool
  | [] => true
  | x :: xs => shP x && shPs xs
end
theorem shPs_iff : ∀ {ps : List Pv}, shPs ps = true ↔ ∀ p ∈ ps, shP p = true
  | [] => by simp [shPs]
  | p :: ps => by
    have ih := shPs_iff (ps := ps)
    simp only [shPs, Bool.and_eq_true, ih, List.mem_cons, forall_eq_or_imp]
theorem shP_tup {xs : List Pv} (h : shP (.tup xs) = true) : xs.length ≤ 100 ∧ ∀ p ∈ xs, shP p = true := by
  have : decide (xs.length ≤ 100) = true ∧ shPs xs = true := by simpa [shP] using h
  exact ⟨of_decide_eq_true this.1, shPs_iff.mp this.2⟩
/-- a drawn move -/
structure MvOk (m : Pv) : Prop where
  q : mvQ m = true
  th : Thing 500 2 m
  d : isD m = true
  e : isE m = true
  sh : shP m = true
theorem isEs_map {α : Type} {f : α → Pv} (h : ∀ x, isE (f x) = true) : ∀ xs : List α, isEs (xs.map f) = true
  | [] => rfl
  | x :: xs => by show (isE (f x) && isEs (xs.map f)) = true; rw [h x, isEs_map h xs]; rfl
theorem codes_thing {ss : List Str} (h : codesS 4 ss = true) (hl : ss.length ≤ 6) : Thing 300 1 (.tup (ss.map .str)) := by
  have hc : ∀ s ∈ ss, codeN 4 s = true := by
    have : ss.all (codeN 4) = true := by
      unfold codesS at h
      exact (Bool.and_eq_true_iff.mp h).1
    exact List.all_eq_true.mp this
  have hT : ∀ p ∈ ss.map Pv.str, Thing 42 0 p := by
    intro p hp
    obtain ⟨s, hs, rfl⟩ := List.mem_map.mp hp
    obtain ⟨h1, h2, _⟩ := codeN_asc (hc s hs)
    exact Thing.str (n := 4) h1 h2 (by decide)
  have := Things.of hT
  rw [List.length_map] at this
  refine (Thing.tup (this.up (m := 264) ?_ (Nat.le_refl _)) (by rw [List.length_map]; omega)).up (by decide) (Nat.le_refl _)
  have : (42 + 2) * ss.length ≤ 44 * 6 := Nat.mul_le_mul_left _ hl
  omega
theorem mvOk {d : Int} {ss : List Str} {w : Str} (h0 : 0 ≤ d) (hd : szI 80 d) (hs : codesS 4 ss = true) (hne : ss ≠ []) (hl : ss.length ≤ 6) (hw : wordS w = true) : MvOk (.tup [.int d, .tup (ss.map .str), .str w]) := by
  have hw2 : asc w = true ∧ w.length ≤ 8 := by
    unfold wordS at hw
    simp only [Bool.and_eq_true, decide_eq_true_eq] at hw
    refine ⟨List.all_eq_true.mpr fun c hc => ?_, hw.1.2⟩
    have := List.all_eq_true.mp hw.2 c hc
    unfold smallC at this
    simp only [Bool.and_eq_true, decide_eq_true_eq] at this
    exact decide_eq_true (by omega)
  refine ⟨?_, ?_, ?_, ?_, ?_⟩
  · show (decide (0 ≤ d) && (((match allS (ss.map .str) with | some ss => codesS 4 ss | none => false) && neT (.tup (ss.map .str))) && wordS w)) = true
    rw [allS_str, decide_eq_true h0, hw]
    show (true && ((codesS 4 ss && _) && true)) = true
    rw [hs]
    cases ss with
    | nil => exact absurd rfl hne
    | cons _ _ => rfl
  · refine (Thing.tup (Things.cons (Thing.int (d := 1) hd (by decide)) (Things.cons (codes_thing hs hl) (Things.cons (Thing.str (n := 8) hw2.1 hw2.2 (by decide)) (Things.nil (n := 0))))) (by show 3 ≤ 1000; decide)).up (by decide) (Nat.le_refl _)
  · show (true && (isDs (ss.map .str) && (true && true))) = true
    rw [isDs_map (fun _ => rfl)]; rfl
  · show (true && (isEs (ss.map .str) && (true && true))) = true
    rw [isEs_map (fun _ => rfl)]; rfl
  · show (true && (true && ((decide ((ss.map Pv.str).length ≤ 100) && shPs (ss.map .str)) && (true && true)))) = true
    rw [decide_eq_true (by rw [List.length_map]; omega), shPs_iff.mpr (fun p hp => by
      obtain ⟨s, _, rfl⟩ := List.mem_map.mp hp
      rfl)]
    rfl
/-- moves that are drawn -/
structure MovesOk (p : Pv) : Prop where
  q : movesP p = true
  th : Thing 13000 3 p
  d : isD p = true
  e : isE p = true
  sh : shP p = true
theorem movesOk {ms : List Pv} (h : ∀ m ∈ ms, MvOk m) (hl : ms.length ≤ 24) (hp : (ms.map dayI).Pairwise (· ≤ ·)) : MovesOk (.tup ms) := by
  refine ⟨?_, ?_, isDs_iff.mpr fun m hm => (h m hm).d, isEs_iff.mpr fun m hm => (h m hm).e, ?_⟩
  · show (decide (ms.length ≤ 24) && (ms.all mvQ && nonfall (ms.map dayI))) = true
    rw [decide_eq_true hl, List.all_eq_true.mpr fun m hm => (h m hm).q, nonfall_iff, decide_eq_true (sortI_eq.mpr hp).symm]; rfl
  · have := Things.of fun m hm => (h m hm).th
    refine (Thing.tup (this.up (m := 12900) ?_ (Nat.le_refl _)) (by omega)).up (by decide) (Nat.le_refl _)
    have : (500 + 2) * ms.length ≤ 502 * 24 := Nat.mul_le_mul_left _ hl
    omega
  · show (decide (ms.length ≤ 100) && shPs ms) = true
    rw [decide_eq_true (by omega), shPs_iff.mpr fun m hm => (h m hm).sh]; rfl
theorem Things.cut {n d : Nat} {ps : List Pv} (h : Things n d ps) (lo hi : Option Int) : Things n d (cutP ps lo hi) := by
  unfold cutP
  exact (h.drop _).take _
theorem cut_len (ps : List Pv) (lo hi : Option Int) : (cutP ps lo hi).length ≤ ps.length := by
  unfold cutP
  rw [List.length_take, List.length_drop]
  omega
theorem cut_mem {ps : List Pv} {lo hi : Option Int} {p : Pv} (h : p ∈ cutP ps lo hi) : p ∈ ps := List.mem_of_mem_drop (List.mem_of_mem_take h)
/-- a thing that may be shown and looked at -/
def ThOk (p : Pv) : Prop := okR p ∧ plainT p
def thB (p : Pv) : Bool := (smP p && isD p) && (fine p && (decide (dpP p ≤ 20) && decide (wt p ≤ 16000000)))
theorem thB_ok {p : Pv} (h : thB p = true) : ThOk p := by
  unfold thB at h
  simp only [Bool.and_eq_true, decide_eq_true_eq] at h
  obtain ⟨⟨h1, h2⟩, h3, h4, h5⟩ := h
  exact ⟨Thing.ok ⟨h1, h3, h5, h4⟩ (by rw [h2]; rfl) (Nat.le_refl _) (by decide), h1, .inl ⟨h2, h3, Nat.le_trans h4 (by decide)⟩⟩
theorem thB_all {ps : List Pv} (h : ps.all thB = true) : ∀ p ∈ ps, ThOk p := fun p hp => thB_ok (List.all_eq_true.mp h p hp)
theorem Thing.tho {n d : Nat} {p : Pv} (h : Thing n d p) (hd : isD p = true) (l : n ≤ 16000000) (l' : d ≤ 60) : ThOk p := ⟨h.ok (by rw [hd]; rfl) l l', h.sm, .inl ⟨hd, h.fn, Nat.le_trans h.dp l'⟩⟩
theorem dct_tho : ThOk (.dct [] []) := ⟨⟨rfl, rfl, by decide +kernel, by decide +kernel⟩, rfl, .inr rfl⟩
end PL

/-! Sets of keys of any depth (after the way of HandS.TupSets): what a set holds, as a list of values with their keys. -/
namespace PLS
open PySem PySem.Spec PyProof.Rows L2
section
variable {P : Program} {w : World} {A : Around} {E : Value → Shared → Prop} {s : Shared}
mutual
theorem hashBy_key : ∀ (k : NestedKey) (v : Value) (n : Nat) (A : Around) (E : Value → Shared → Prop) (Q : Bool → Shared → Prop), NestedIs s.heap k v → (∀ b, Q b s) → wpAny (model P w) A (hashByValue n v) Q E s
  | .none, _, n, A, E, Q, x, h => by cases x; cases n <;> exact wpAny_pure (h _)
  | .num i, _, n, A, E, Q, x, h => by cases x <;> cases n <;> exact wpAny_pure (h _)
  | .text y, _, n, A, E, Q, x, h => by cases x; cases n <;> exact wpAny_pure (h _)
  | .tup ks, _, n, A, E, Q, x, h => by
    cases x with
    | @tup a o vs m _ hg hc hd hk =>
      cases n with
      | zero => exact wpAny_pure (h _)
      | succ n =>
        unfold hashByValue
        refine wpAny_bind (wpAny_specialOf ⟨o, hg, hc⟩ F.slot_tuple_hash.lookup ?_)
        show wpAny _ _ (seqItems? (.ref a) >>= _) _ _ s
        refine wpAny_bind (wpAny_seqItems hg hd ?_)
        refine wpAny_bind ?_
        show wpAny _ _ (forIn vs _ _) _ _ s
        rw [← Array.forIn_toList]
        refine hashBy_keys ks vs.toList n A E _ hk fun r => ?_
        obtain ⟨r1, r2⟩ := r
        cases r1 with
        | none => exact wpAny_pure (h _)
        | some b => exact wpAny_pure (h _)
theorem hashBy_keys : ∀ (ks : List NestedKey) (vs : List Value) (n : Nat) (A : Around) (E : Value → Shared → Prop) (Q : Option Bool × Unit → Shared → Prop), NestedAll s.heap ks vs → (∀ r, Q r s) →
    wpAny (model P w) A (forIn vs ((none, ()) : Option Bool × Unit) fun x r => do if !(← hashByValue n x) then pure (ForInStep.done (some false, ())) else pure (ForInStep.yield (none, ()))) Q E s
  | [], _, n, A, E, Q, x, h => by cases x; exact wpAny_pure (h _)
  | k :: ks, _, n, A, E, Q, x, h => by
    cases x with
    | cons x1 x2 =>
      rw [List.forIn_cons]
      refine wpAny_bind (wpAny_bind (hashBy_key k _ n A E _ x1 fun b => ?_))
      cases b with
      | false => exact wpAny_pure (wpAny_pure (h _))
      | true => exact wpAny_pure (hashBy_keys ks _ n A E Q x2 h)
end

mutual
theorem ofAClass_key : ∀ (k : NestedKey) (v : Value) (n : Nat) (A : Around) (E : Value → Shared → Prop) (Q : Bool → Shared → Prop), NestedIs s.heap k v → k.depth ≤ n → Q false s → wpAny (model P w) A (ofAClassStatement n v) Q E s
  | .none, _, n, A, E, Q, x, _, h => by cases x; cases n <;> exact wpAny_pure h
  | .num i, _, n, A, E, Q, x, _, h => by cases x <;> cases n <;> exact wpAny_pure h
  | .text y, _, n, A, E, Q, x, _, h => by cases x; cases n <;> exact wpAny_pure h
  | .tup ks, _, n, A, E, Q, x, hn, h => by
    cases x with
    | @tup a o vs m _ hg hc hd hk =>
      cases n with
      | zero => exact absurd hn (by rw [NestedKey.depth]; omega)
      | succ n =>
        unfold ofAClassStatement
        refine wpAny_bind (wpAny_typeOf ⟨o, hg, hc⟩ ?_)
        dsimp only
        have e : (("tuple" : String) == "tuple") = true := by decide
        simp only [e, if_true, Bool.not_true, Bool.false_eq_true, if_false]
        try refine wpAny_bind (wpAny_pure ?_)
        try simp only [Bool.not_true, Bool.false_eq_true, if_false]
        show wpAny _ _ (seqItems? (.ref a) >>= _) _ _ s
        refine wpAny_bind (wpAny_seqItems hg hd ?_)
        dsimp only
        refine wpAny_bind ?_
        show wpAny _ _ (forIn vs _ _) _ _ s
        rw [← Array.forIn_toList]
        refine ofAClass_keys ks vs.toList n A E _ hk (by rw [NestedKey.depth] at hn; omega) ?_
        exact wpAny_pure h
theorem ofAClass_keys : ∀ (ks : List NestedKey) (vs : List Value) (n : Nat) (A : Around) (E : Value → Shared → Prop) (Q : Option Bool × Unit → Shared → Prop), NestedAll s.heap ks vs → NestedKey.depthAll ks ≤ n → Q (none, ()) s →
    wpAny (model P w) A (forIn vs ((none, ()) : Option Bool × Unit) fun x r => do if (← ofAClassStatement n x) then pure (ForInStep.done (some true, ())) else pure (ForInStep.yield (none, ()))) Q E s
  | [], _, n, A, E, Q, x, _, h => by cases x; exact wpAny_pure h
  | k :: ks, _, n, A, E, Q, x, hn, h => by
    cases x with
    | cons x1 x2 =>
      rw [NestedKey.depthAll] at hn
      rw [List.forIn_cons]
      refine wpAny_bind (wpAny_bind (ofAClass_key k _ n A E _ x1 (by omega) ?_))
      exact wpAny_pure (ofAClass_keys ks _ n A E Q x2 (by omega) h)
end
/-- a tuple key -/
structure TK (h : Heap) (k : NestedKey) (v : Value) : Prop where
  is : NestedIs h k v
  deep : k.depth ≤ 8
  ref : ∃ b, v = .ref b
theorem TK.keep {h h' : Heap} {k : NestedKey} {v : Value} (x : TK h k v) (hk : ∀ a o vs n, h.get? a = some o → o.data = .seq vs n → h'.get? a = some o) : TK h' k v := ⟨x.is.at hk, x.deep, x.ref⟩
theorem TK.same {h h' : Heap} {k : NestedKey} {v : Value} {a : Addr} {o : Obj} {es : Array (Int × Value)} {ep : Nat} {t : SetTable} (x : TK h k v) (ho : h.get? a = some o) (hd : o.data = .set es ep t) (hs : Heap.SameBut a h h') : TK h' k v :=
  x.keep fun b ob vs n hb hq => (hs.2 b fun e => by
    rw [e, ho] at hb
    cases hb
    rw [hd] at hq
    cases hq).trans hb
theorem seen_key {k : NestedKey} {v : Value} {Q : Bool → Shared → Prop} (hk : TK s.heap k v) {ys : List Value} (hy : ∀ y ∈ ys, ∃ k', TK s.heap k' y) (h : Q false s) :
    wpAny (model P w) A (searchCouldBeSeen v ys) Q E s := by
  obtain ⟨b, rfl⟩ := hk.ref
  unfold searchCouldBeSeen
  refine wpAny_bind ?_
  refine wpAny_forIn_list _ (fun rest r s' => r.1 = none ∧ s' = s ∧ ∀ y ∈ rest, ∃ k', TK s.heap k' y) _ ?_ ?_ _ _ ⟨rfl, rfl, hy⟩
  · rintro v rest r s' ⟨hr, rfl, hall⟩
    obtain ⟨k', hc⟩ := hall v List.mem_cons_self
    obtain ⟨c, rfl⟩ := hc.ref
    have rest' : ∀ y ∈ rest, ∃ k', TK s'.heap k' y := fun u hu' => hall u (List.mem_cons_of_mem _ hu')
    dsimp only
    by_cases hv : (b == c || (carriedByValue (.ref b) && carriedByValue (.ref c))) = true
    · refine wp_if_pos hv ?_
      exact wpAny_pure ⟨rfl, rfl, rest'⟩
    · refine wp_if_neg hv ?_
      refine wpAny_bind (quiet_key k _ 8 s' hk.is hk.deep A E _ ?_)
      simp only [Bool.not_true, Bool.false_eq_true, if_false]
      refine wpAny_bind (quiet_key k' _ 8 s' hc.is hc.deep A E _ ?_)
      simp only [Bool.not_true, Bool.false_eq_true, if_false]
      refine wpAny_bind (ofAClass_key k _ 8 A E _ hk.is hk.deep ?_)
      simp only [Bool.false_eq_true, if_false]
      refine wpAny_bind (ofAClass_key k' _ 8 A E _ hc.is hc.deep ?_)
      simp only [Bool.false_eq_true, if_false]
      exact wpAny_pure ⟨rfl, rfl, rest'⟩
  · rintro ⟨r1, r2⟩ s' ⟨hr, rfl, _⟩
    simp only at hr
    subst hr
    exact wpAny_pure h
abbrev Es := List (Value × NestedKey)
abbrev nh (w : World) (k : NestedKey) : Int := k.hash w
def rws (w : World) (L : Es) : List (Int × Value) := L.map fun p => (nh w p.2, p.1)
/-- the set at a holds L, tuples that are keys; its table is found through -/
structure SetP (w : World) (h : Heap) (a : Addr) (L : Es) (es : Array (Int × Value)) (ep : Nat) (t : SetTable) : Prop where
  ob : ∃ o, h.get? a = some o ∧ o.ExactSet ∧ o.data = .set es ep t
  rows : es.toList = rws w L
  tab : TabOk t (L.map fun p => nh w p.2)
  nd : (L.map (·.2)).Nodup
  led : w.params.followText "set-order" = true ∨ t.led = true
  room : L.length * 5 < t.mask * 3
  few : L.length < 76
  tup : ∀ p ∈ L, TK h p.2 p.1
variable {a : Addr} {L : Es} {es : Array (Int × Value)} {ep : Nat} {t : SetTable}
theorem SetP.size {h : Heap} (R : SetP w h a L es ep t) : es.size = L.length := by
  have h := congrArg List.length R.rows
  unfold rws at h
  rw [Array.length_toList, List.length_map] at h
  exact h
theorem SetP.fits {h : Heap} (R : SetP w h a L es ep t) : t.fits es.size = true := by
  have h1 := R.tab.sz
  rw [List.length_map] at h1
  have h2 := R.size
  have h3 := R.room
  unfold SetTable.fits SetTable.fill
  rw [R.tab.dm, Bool.and_eq_true, beq_iff_eq, decide_eq_true_eq]
  show t.place.size = es.size ∧ t.place.size + 0 ≤ t.mask
  omega
theorem SetP.entry {h : Heap} (R : SetP w h a L es ep t) {i : Nat} {p : Value × NestedKey} (h : L[i]? = some p) : es[i]? = some (nh w p.2, p.1) := by
  rw [← Array.getElem?_toList, R.rows]
  unfold rws
  rw [List.getElem?_map, h] <;> rfl
theorem SetP.gw {h : Heap} (R : SetP w h a L es ep t) : ¬ t.gaveWay = true := by
  unfold SetTable.gaveWay
  rw [mask_odd R.tab.mok]
  decide
abbrev go0 (m : Nat) (h : Int) : SetTable.Probe := runAt m (SetTable.bits h % (m + 1)) (SetTable.bits h)
theorem nth_dm (m : Nat) : ∀ (n : Nat) (p : SetTable.Probe), p.dummy = none → (nth m p n).dummy = none
  | 0, _, h => h
  | n + 1, p, h => nth_dm m n (adv m p) (by unfold adv; split <;> exact h)
/-- the search, from the c-th step of the way on -/
theorem look (R : SetP w s.heap a L es ep t) {x : Value} {k : NestedKey} (hx : TK s.heap k x) (hu : A.units + 8 < cLine) {K : Nat} (hKf : K < 10 * SetTable.turns t.mask)
    (hK : way t.mask (nh w k) K ∉ t.place.toList) (hKb : ∀ c, c < K → way t.mask (nh w k) c ∈ t.place.toList) {Q : SetFound → Shared → Prop}
    (hin : k ∈ L.map (·.2) → Q (.there none) s) (hout : k ∉ L.map (·.2) → Q (.free (way t.mask (nh w k) K) false) s) :
    ∀ (f c : Nat) (stand : Option SetTable.Probe), stand.getD (t.probeStart (nh w k)) = nth t.mask (go0 t.mask (nh w k)) c → c ≤ K → K - c < f →
      (∀ (i : Nat) p, L[i]? = some p → p.2 = k → ∃ c', c ≤ c' ∧ c' < K ∧ t.place.toList[i]? = some (way t.mask (nh w k) c')) →
      wpAny (model P w) A (setSearchFrom a x (nh w k) true f stand) Q E s
  | 0, c, stand, _, _, hf, _ => absurd hf (Nat.not_lt_zero _)
  | f + 1, c, stand, hst, hc, hf, hre => by
    obtain ⟨o, ho, hex, hd⟩ := R.ob
    rw [setSearchFrom_succ]
    refine wpAny_bind (wpAny_setState_of ho hd R.fits ?_)
    dsimp only
    refine wp_if_neg R.gw ?_
    try refine wpAny_bind (wpAny_pure ?_)
    have hnd := nth_dm t.mask c (go0 t.mask (nh w k)) rfl
    have sh : ∀ q, nth t.mask (nth t.mask (go0 t.mask (nh w k)) c) q = nth t.mask (go0 t.mask (nh w k)) (c + q) := fun q => (nth_add t.mask c _ q).symm
    have e1 : ∀ q, (nth t.mask (nth t.mask (go0 t.mask (nh w k)) c) q).j = way t.mask (nh w k) (c + q) := fun q => congrArg SetTable.Probe.j (sh q)
    have spec := go_spec t R.tab.ris R.tab.dm (fun i => (es[i]?.map (·.1)).getD 0) (nh w k) (10 * SetTable.turns t.mask) (K - c) _ hnd (by omega)
      (fun q hq => by rw [e1]; exact hKb (c + q) (by omega)) (by rw [e1, show c + (K - c) = K by omega]; exact hK)
    have hashAt : ∀ (i : Nat) p, L[i]? = some p → (fun i => (es[i]?.map (·.1)).getD 0) i = nh w p.2 := fun i p hp => by
      show (es[i]?.map (·.1)).getD 0 = _
      rw [R.entry hp] <;> rfl
    rcases spec with ⟨q, i, hq, hi, hh, hno, hpr⟩ | ⟨hno, hpr⟩
    · have hpr' : t.probe (fun i => (es[i]?.map (·.1)).getD 0) (nh w k) (stand.getD (t.probeStart (nh w k))) = some (.candidate (way t.mask (nh w k) (c + q)) i (nth t.mask (go0 t.mask (nh w k)) (c + (q + 1)))) := by
        rw [hst, ← e1, ← sh]
        exact hpr
      rw [hpr']
      dsimp only
      rw [e1] at hi
      have hil : i < L.length := by
        have h1 : i < t.place.toList.length := (List.getElem?_eq_some_iff.mp hi).1
        have h2 := R.tab.sz
        rw [List.length_map] at h2
        rw [Array.length_toList] at h1
        omega
      have hp : L[i]? = some L[i] := List.getElem?_eq_getElem hil
      generalize hpe : L[i] = p at hp
      have hmem : p ∈ L := List.mem_of_getElem? hp
      have hpt := R.tup p hmem
      have rest : wpAny (model P w) A (searchRest a x (nh w k) true f es t (way t.mask (nh w k) (c + q)) i (nth t.mask (go0 t.mask (nh w k)) (c + (q + 1)))) Q E s := by
        unfold searchRest
        rw [R.entry hp]
        dsimp only
        refine wpAny_bind (wpAny_holding (eqAt_key p.2 k A s p.1 x hpt.is hx.is (by have := hpt.deep; omega) _ _ _ _ ?_))
        refine wpAny_bind (wpAny_setState_of ho hd R.fits ?_)
        dsimp only
        rw [← NestedKey.decide_eq]
        by_cases hkk : p.2 = k
        · refine wp_if_pos (by simp [hkk]) ?_
          refine wpAny_pure (hin ?_)
          exact List.mem_map.mpr ⟨p, hmem, hkk⟩
        · refine wp_if_neg (by simp [hkk]) ?_
          try refine wpAny_bind (wpAny_pure ?_)
          rw [sameMem]
          dsimp only
          have hsl : t.slot (way t.mask (nh w k) (c + q)) = .live i := slot_live R.tab.ris hi
          simp only [if_true, hsl, R.entry hp]
          obtain ⟨pb, epb⟩ := hpt.ref
          rw [epb]
          refine wpAny_bind (wpAny_isSame_ref_self (wpAny_bind (wpAny_pure ?_)))
          simp only [if_true]
          refine wp_if_neg (by simp [hkk]) ?_
          refine look R hx hu hKf hK hKb hin hout f (c + (q + 1)) _ rfl (by omega) (by omega) fun i0 p0 h0 hk0 => ?_
          obtain ⟨c', a1, a2, a3⟩ := hre i0 p0 h0 hk0
          refine ⟨c', ?_, a2, a3⟩
          rcases Nat.lt_or_ge c' (c + q) with z | z
          · exfalso
            refine hno (c' - c) i0 (by omega) (by rw [e1, show c + (c' - c) = c' by omega]; exact a3) ?_
            exact (hashAt i0 p0 h0).trans (congrArg (nh w) hk0)
          · rcases Nat.lt_or_ge (c + q) c' with y | y
            · omega
            · exfalso
              have ec : c' = c + q := Nat.le_antisymm y z
              rw [ec] at a3
              have s0 := slot_live R.tab.ris a3
              rw [hsl] at s0
              injection s0 with s0
              rw [← s0, hp] at h0
              exact hkk ((congrArg Prod.snd (Option.some.inj h0)).trans hk0)
      by_cases hl : t.led = true
      · refine wp_if_neg (by simp [hl]) ?_
        try refine wpAny_bind (wpAny_pure ?_)
        exact rest
      · refine wp_if_pos (by simp [hl]) ?_
        refine wpAny_bind (seen_key hx (fun y hy => ?_) ?_)
        · obtain ⟨e, he, ee⟩ := List.mem_map.mp hy
          have he1 : e ∈ es ∧ e.1 = nh w k := by simpa using he
          have he2 : e ∈ es.toList := by simpa using he1.1
          rw [R.rows] at he2
          obtain ⟨p2, hp2, e2⟩ := List.mem_map.mp he2
          refine ⟨p2.2, ?_⟩
          rw [← ee, ← e2]
          exact R.tup p2 hp2
        · refine wp_if_neg (by decide) ?_
          try refine wpAny_bind (wpAny_pure ?_)
          exact rest
    · have hpr' : t.probe (fun i => (es[i]?.map (·.1)).getD 0) (nh w k) (stand.getD (t.probeStart (nh w k))) = some (.empty (way t.mask (nh w k) K) none) := by
        have e2 : way t.mask (nh w k) K = (nth t.mask (nth t.mask (go0 t.mask (nh w k)) c) (K - c)).j := by
          rw [e1, show c + (K - c) = K by omega]
        rw [hst, e2]
        exact hpr
      rw [hpr']
      dsimp only
      refine wpAny_pure (hout fun hm => ?_)
      obtain ⟨p0, h0, hk0⟩ := List.mem_map.mp hm
      obtain ⟨i0, hi0, e0⟩ := List.getElem_of_mem h0
      have h00 : L[i0]? = some p0 := by rw [List.getElem?_eq_getElem hi0, e0]
      obtain ⟨c', a1, a2, a3⟩ := hre i0 p0 h00 hk0
      refine hno (c' - c) i0 (by omega) (by rw [e1, show c + (c' - c) = c' by omega]; exact a3) ?_
      exact (hashAt i0 p0 h00).trans (congrArg (nh w) hk0)
theorem look_at (R : SetP w s.heap a L es ep t) {x : Value} {k : NestedKey} (hx : TK s.heap k x) (hu : A.units + 8 < cLine) {Q : SetFound → Shared → Prop}
    (hin : k ∈ L.map (·.2) → Q (.there none) s)
    (hout : ∀ K, k ∉ L.map (·.2) → way t.mask (nh w k) K ∉ t.place.toList → (∀ c, c < K → way t.mask (nh w k) c ∈ t.place.toList) → Q (.free (way t.mask (nh w k) K) false) s) :
    wpAny (model P w) A (setSearch a x (nh w k) true) Q E s := by
  have hroom := R.room
  obtain ⟨K, hKf, hK, hKb⟩ := R.tab.first (by rw [List.length_map]; omega) (nh w k)
  have hbig : K < 100000 := by
    have : 10 * SetTable.turns t.mask ≤ 1420 := by
      unfold SetTable.turns
      rcases R.tab.mok with e | e | e <;> omega
    omega
  unfold setSearch
  refine look R hx hu hKf hK hKb hin (fun hn => hout K hn hK hKb) 100000 0 none rfl (Nat.zero_le _) (by omega) fun i p hp hk => ?_
  have hi : (L.map fun p => nh w p.2)[i]? = some (nh w k) := by rw [List.getElem?_map, hp, ← hk] <;> rfl
  have hil : i < t.place.toList.length := by
    have h1 : i < L.length := (List.getElem?_eq_some_iff.mp hp).1
    have h2 := R.tab.sz
    rw [List.length_map] at h2
    rw [Array.length_toList]
    omega
  have hj := List.getElem?_eq_getElem hil
  obtain ⟨c, hc, e⟩ := R.tab.before hK hi hj
  exact ⟨c, Nat.zero_le _, hc, by rw [hj, e]⟩
theorem rows_put' (L : Es) (p : Nat) (x : Value) (k : NestedKey) : rws w (L.take p ++ (x, k) :: L.drop p) = (rws w L).take p ++ (nh w k, x) :: (rws w L).drop p := by
  unfold rws
  rw [List.map_append, List.map_cons, List.map_take, List.map_drop]
theorem range_get {α : Type} (L : List α) : (List.range L.length).filterMap (fun i => L[i]?) = L := by
  have key2 : ∀ n, n ≤ L.length → (List.range n).filterMap (fun i => L[i]?) = L.take n := by
    intro n
    induction n with
    | zero => intro _; rfl
    | succ n ih =>
      intro hn
      have hlt : n < L.length := hn
      rw [List.range_succ, List.filterMap_append, ih (Nat.le_of_lt hlt), List.take_succ, List.getElem?_eq_getElem hlt]
      rw [List.filterMap_cons_some (List.getElem?_eq_getElem hlt)] <;> rfl
  rw [key2 L.length (Nat.le_refl _), List.take_length]
theorem order_rows' (L : Es) (es : Array (Int × Value)) (order : Array Nat) (hr : es.toList = rws w L) (hp : order.toList.Perm (List.range L.length)) :
    ∃ L2, (order.filterMap (es[·]?)).toList = rws w L2 ∧ L2.Perm L ∧ (L2.map fun p => nh w p.2) = order.toList.map fun i => (es.map (·.1)).getD i 0 := by
  have ent : ∀ i (h : i < L.length), es[i]? = some (nh w (L[i]).2, (L[i]).1) := fun i h => by
    rw [← Array.getElem?_toList, hr]
    unfold rws
    rw [List.getElem?_map, List.getElem?_eq_getElem h] <;> rfl
  have key : ∀ l : List Nat, (∀ i ∈ l, i < L.length) → ∃ L2 : Es, l.filterMap (fun i => es[i]?) = rws w L2 ∧ L2 = l.filterMap (fun i => L[i]?) ∧ (L2.map fun p => nh w p.2) = l.map fun i => (es.map (·.1)).getD i 0 := by
    intro l
    induction l with
    | nil => intro _; exact ⟨[], rfl, rfl, rfl⟩
    | cons i l ih =>
      intro hl
      have hi := hl i List.mem_cons_self
      obtain ⟨L2, e1, e2, e3⟩ := ih fun j hj => hl j (List.mem_cons_of_mem _ hj)
      refine ⟨L[i] :: L2, ?_, ?_, ?_⟩
      · rw [List.filterMap_cons_some (ent i hi), e1] <;> rfl
      · rw [List.filterMap_cons_some (List.getElem?_eq_getElem hi), e2]
      · rw [List.map_cons, List.map_cons, e3]
        have e4 : (es.map (·.1)).getD i 0 = nh w (L[i]).2 := by
          have e5 : (es.map (·.1))[i]? = some (nh w (L[i]).2) := by rw [Array.getElem?_map, ent i hi] <;> rfl
          simp [Array.getD_eq_getD_getElem?, e5]
        rw [e4]
  obtain ⟨L2, e1, e2, e3⟩ := key order.toList fun i hi => List.mem_range.mp (hp.mem_iff.mp hi)
  refine ⟨L2, by first | (rw [Array.toList_filterMap]; exact e1) | simpa using e1, ?_, e3⟩
  have h1 : L2.Perm ((List.range L.length).filterMap fun i => L[i]?) := by
    rw [e2]
    exact hp.filterMap _
  rw [range_get] at h1
  exact h1
theorem relay_at' {o : Obj} (ho : s.heap.get? a = some o) (hex : o.ExactSet) (hd : o.data = .set es ep t) (hrows : es.toList = rws w L) (hsz : t.place.size = es.size) (hdm : t.dummies = #[]) (hfl : es.size ≤ t.mask)
    (nd : (L.map (·.2)).Nodup) (tup : ∀ p ∈ L, TK s.heap p.2 p.1) (ld : w.params.followText "set-order" = true ∨ t.led = true) (few : L.length < 76) {wanted M : Nat}
    (hw : SetTable.sizeAbove wanted - 1 = M) (hM : MaskOk M) (hw2 : SetTable.sizeAbove wanted ≤ 128) (hn : L.length * 5 < M * 3) {Q : Unit → Shared → Prop}
    (hQ : ∀ h' L' es' ep' t', Heap.SameBut a s.heap h' → SetP w h' a L' es' ep' t' → L'.Perm L → Q () { s with heap := h' }) : wpAny (model P w) A (setRelay a wanted) Q E s := by
  have hsl : es.size = L.length := by
    have h := congrArg List.length hrows
    unfold rws at h
    rw [Array.length_toList, List.length_map] at h
    exact h
  have hfits : t.fits es.size = true := by
    unfold SetTable.fits SetTable.fill
    rw [hdm, Bool.and_eq_true, beq_iff_eq, decide_eq_true_eq]
    show t.place.size = es.size ∧ t.place.size + 0 ≤ t.mask
    omega
  obtain ⟨t', order, e, hp, T, em, el, ep', ed⟩ := relaid_ok t (hs := es.map (·.1)) (wanted := wanted) hw hM (by rw [Array.size_map, hsl]; omega)
  rw [Array.size_map, hsl] at hp
  obtain ⟨L2, r1, r2, r3⟩ := order_rows' L es order hrows hp
  rw [← r3] at T
  have hs2 : (order.filterMap (es[·]?)).size = es.size := by
    have h := congrArg List.length r1
    unfold rws at h
    rw [Array.length_toList, List.length_map, r2.length_eq] at h
    rw [h, hsl]
  rw [setRelay_eq]
  refine wpAny_bind (wpAny_setState_of ho hd hfits ?_)
  dsimp only
  refine wp_if_neg (by rw [sizeLine_eq]; omega) ?_
  try refine wpAny_bind (wpAny_pure ?_)
  rw [e]
  dsimp only
  refine wpAny_bind ?_
  refine wp_if_neg (by rw [hs2]; simp) ?_
  try refine wpAny_bind (wpAny_pure ?_)
  refine wpAny_pure ?_
  dsimp only
  refine wpAny_storeSet_of ho hd ?_ (by rw [hs2, hsl, sizeLine_eq]; omega)
  have sb : Heap.SameBut a s.heap (s.heap.update a (Obj.putSet (order.filterMap (es[·]?)) t')) := Heap.SameBut.update ..
  refine hQ _ L2 (order.filterMap (es[·]?)) (ep + 1) t' sb ?_ r2
  refine ⟨⟨_, store_at ho hd, ⟨hex.1, hex.2.1, hex.2.2⟩, rfl⟩, r1, T, ?_, by rw [el]; exact ld, ?_, by rw [r2.length_eq]; exact few, fun p hpm => (tup p (r2.mem_iff.mp hpm)).same ho hd sb⟩
  · exact (r2.map (·.2)).nodup_iff.mpr nd
  · rw [r2.length_eq, em]
    exact hn
/-- adding -/
theorem addP (R : SetP w s.heap a L es ep t) {x : Value} {k : NestedKey} (hx : TK s.heap k x) (hu : A.units + 8 < cLine) (hfew : L.length + 1 < 76) {Q : Bool → Shared → Prop}
    (hQ : ∀ b h' L' es' ep' t', Heap.SameBut a s.heap h' → SetP w h' a L' es' ep' t' → (k ∈ L.map (·.2) → L' = L) → (k ∉ L.map (·.2) → L'.Perm ((x, k) :: L)) → Q b { s with heap := h' }) :
    wpAny (model P w) A (setAddHashed a x (nh w k)) Q E s := by
  obtain ⟨o, ho, hex, hd⟩ := R.ob
  have hsl := R.size
  have hroom := R.room
  obtain ⟨xb, exb⟩ := hx.ref
  unfold setAddHashed
  refine wpAny_holding ?_
  rw [show (100000 : Nat) = 99999 + 1 from rfl, setAddHashedIn_succ]
  refine wpAny_bind (wpAny_setState_of ho hd R.fits ?_)
  dsimp only
  refine wp_if_neg (by rw [exb]; simp [byScan, Value.scannable]) ?_
  try refine wpAny_bind (wpAny_pure ?_)
  refine wpAny_bind (look_at R hx hu (fun hm => ?_) fun K hm hK hb => ?_)
  · dsimp only
    exact wpAny_pure (hQ false s.heap L es ep t (Heap.SameBut.refl a s.heap) R (fun _ => rfl) fun z => absurd hm z)
  · dsimp only
    refine wpAny_bind (wpAny_setState_of ho hd R.fits ?_)
    dsimp only
    obtain ⟨q1, q2, q3, q4, q5, q6, q7, q8, q9⟩ := R.tab.put hK hb
    generalize hpt : t.put (way t.mask (nh w k) K) = pt at q1 q3 q4 q5 q6 q7 q8 q9 ⊢
    obtain ⟨t1, p⟩ := pt
    dsimp only at q1 q3 q4 q5 q6 q7 q8 q9 ⊢
    subst q1
    have hin : (SetTable.insertAt es (SetTable.below t.place (way t.mask (nh w k) K)) (nh w k, x)).toList = rws w (L.take (SetTable.below t.place (way t.mask (nh w k) K)) ++ (x, k) :: L.drop (SetTable.below t.place (way t.mask (nh w k) K))) := by
      rw [SetTable.toList_insertAt, rows_put', R.rows]
    generalize hpp : SetTable.below t.place (way t.mask (nh w k) K) = p at q2 q3 hin ⊢
    have pm := put_perm L p (x, k)
    have hlen : (L.take p ++ (x, k) :: L.drop p).length = L.length + 1 := pm.length_eq
    have hhs : (L.take p ++ (x, k) :: L.drop p).map (fun p => nh w p.2) = (L.map fun p => nh w p.2).take p ++ nh w k :: (L.map fun p => nh w p.2).drop p := by
      rw [List.map_append, List.map_cons, List.map_take, List.map_drop]
    rw [← hhs] at q3
    have nd1 : ((L.take p ++ (x, k) :: L.drop p).map (·.2)).Nodup := by
      refine (pm.map (·.2)).nodup_iff.mpr ?_
      rw [List.map_cons]
      exact List.nodup_cons.mpr ⟨hm, R.nd⟩
    have hes : (SetTable.insertAt es p (nh w k, x)).size = L.length + 1 := by
      have h := congrArg List.length hin
      unfold rws at h
      rw [Array.length_toList, List.length_map, hlen] at h
      exact h
    generalize SetTable.insertAt es p (nh w k, x) = es1 at hin hes ⊢
    generalize L.take p ++ (x, k) :: L.drop p = L1 at pm hlen q3 nd1 hin
    have fin : ∀ (t2 : SetTable), t2.place = t1.place → t2.dummies = t1.dummies → t2.mask = t1.mask → t2.led = t1.led → wpAny (model P w) A (do
        storeSet a es1 t2
        if (!false && t2.tooFull) = true then do setRelay a (SetTable.grown (es.size + 1)); pure true else pure true) Q E s := by
      intro t2 f1 f2 f3 f4
      have tb : TabOk t2 (L1.map fun p => nh w p.2) := ⟨by rw [f1]; exact q3.ris, by rw [f2]; exact q3.dm, by rw [f1]; exact q3.sz, by rw [f3]; exact q3.mok, by rw [f1, f3]; exact q3.bd, by rw [f1, f3]; exact q3.reach⟩
      have hfill : t2.fill = t1.fill := by unfold SetTable.fill; rw [f1, f2]
      refine wpAny_bind (wpAny_storeSet_of ho hd ?_ (by rw [hes, sizeLine_eq]; omega))
      have sb : Heap.SameBut a s.heap (s.heap.update a (Obj.putSet es1 t2)) := Heap.SameBut.update ..
      have ho1 := store_at (es' := es1) (t' := t2) ho hd
      generalize s.heap.update a (Obj.putSet es1 t2) = h1 at sb ho1 ⊢
      have tup1 : ∀ p ∈ L1, TK h1 p.2 p.1 := fun p hp => by
        rcases List.mem_cons.mp (pm.mem_iff.mp hp) with e | hp
        · rw [e]; exact hx.same ho hd sb
        · exact (R.tup p hp).same ho hd sb
      have ld1 : w.params.followText "set-order" = true ∨ t2.led = true := by rw [f4, q5]; exact R.led
      have tf : t2.tooFull = t1.tooFull := by unfold SetTable.tooFull; rw [hfill, f3]
      by_cases hf : t1.tooFull = true
      · rw [if_pos (by rw [tf]; simp [hf])]
        refine wpAny_bind ?_
        have hfull : (L.length + 1) * 5 ≥ t1.mask * 3 := by
          have h := hf
          unfold SetTable.tooFull at h
          rw [decide_eq_true_eq, q9, List.length_map] at h
          exact h
        rw [hsl]
        have hsz1 : t2.place.size = es1.size := by
          have h := tb.sz
          rw [List.length_map, hlen] at h
          rw [h, hes]
        have cases2 : (t.mask = 7 ∧ L.length = 4) ∨ (t.mask = 31 ∧ L.length = 18) := by
          rcases R.tab.mok with e | e | e
          · left; rw [q4, e] at hfull; rw [e] at hroom; exact ⟨e, by omega⟩
          · right; rw [q4, e] at hfull; rw [e] at hroom; exact ⟨e, by omega⟩
          · exfalso; rw [q4, e] at hfull; omega
        have go : ∀ M, SetTable.sizeAbove (SetTable.grown (L.length + 1)) - 1 = M → MaskOk M → SetTable.sizeAbove (SetTable.grown (L.length + 1)) ≤ 128 → (L.length + 1) * 5 < M * 3 →
            wpAny (model P w) A (setRelay a (SetTable.grown (L.length + 1))) (fun _ s' => wpAny (model P w) A (pure true) Q E s') E { s with heap := h1 } := fun M h1' h2' h3' h4' => by
          refine relay_at' (s := { s with heap := h1 }) ho1 ⟨hex.1, hex.2.1, hex.2.2⟩ rfl hin hsz1 tb.dm (by rw [hes, f3, q4]; rcases cases2 with ⟨e, e2⟩ | ⟨e, e2⟩ <;> omega) nd1 tup1 ld1 (by rw [hlen]; exact hfew) h1' h2' h3' (by rw [hlen]; exact h4') ?_
          intro h2 L2 es2 ep2 t3 sb2 R2 pm2
          refine wpAny_pure (hQ true h2 L2 es2 ep2 t3 (sb.trans sb2) R2 (fun z => absurd z hm) fun _ => pm2.trans pm)
        rcases cases2 with ⟨_, e2⟩ | ⟨_, e2⟩
        · refine go 31 (by rw [e2, size_20]) (.inr (.inl rfl)) (by rw [e2, size_20]; decide) (by omega)
        · refine go 127 (by rw [e2, size_76]) (.inr (.inr rfl)) (by rw [e2, size_76]; decide) (by omega)
      · rw [if_neg (by rw [tf]; simp [hf])]
        refine wpAny_pure (hQ true h1 L1 es1 (ep + 1) t2 sb ⟨⟨_, ho1, ⟨hex.1, hex.2.1, hex.2.2⟩, rfl⟩, hin, tb, nd1, ld1, ?_, by rw [hlen]; exact hfew, tup1⟩ (fun z => absurd z hm) fun _ => pm)
        have h := hf
        unfold SetTable.tooFull at h
        rw [decide_eq_true_eq, q9, List.length_map] at h
        rw [hlen, f3]
        omega
    have two : ∀ b : Bool, wpAny (model P w) A (do
        storeSet a es1 (if b = true then t1 else { t1 with plain := false })
        if (!false && (if b = true then t1 else { t1 with plain := false }).tooFull) = true then do setRelay a (SetTable.grown (es.size + 1)); pure true else pure true) Q E s := by
      intro b
      cases b
      · exact fin { t1 with plain := false } rfl rfl rfl rfl
      · exact fin t1 rfl rfl rfl rfl
    split
    · exact wpAny_bind (hashBy_key k x 8 A E _ hx.is two)
    · exact wpAny_bind (wpAny_pure (two true))
/-- a key that is carried by value: a whole number or a text -/
inductive BK : NestedKey → Value → Prop
  | int (i : Int) (t : Tok) : BK (.num i) (.int i t)
  | text (x : Str) (t : Tok) : BK (.text x) (.str x t)
def kx : NestedKey → Key
  | .num i => .inl i
  | .text x => .inr x
  | _ => .inl 0
theorem BK.mix {k : NestedKey} {v : Value} (b : BK k v) : (mixKind P w).is (kx k) v = true := by
  cases b with
  | int i t => exact mixKind_int P w i t
  | text x t => exact mixKind_str P w x t
theorem BK.hash {k : NestedKey} {v : Value} (b : BK k v) : nh w k = (mixKind P w).hash (kx k) := by
  cases b <;> rfl
theorem BK.sc {k : NestedKey} {v : Value} (b : BK k v) : v.scannable = true := by
  cases b <;> rfl
theorem BK.nested {k : NestedKey} {v : Value} (b : BK k v) (h : Heap) : NestedIs h k v := by
  cases b with
  | int i t => exact .int i t
  | text x t => exact .text x t
theorem BK.iff {k k' : NestedKey} {v v' : Value} (b : BK k v) (b' : BK k' v') : (mixKind P w).is (kx k) v' = true ↔ k' = k := by
  rw [mixKind_is]
  cases b with
  | int i t =>
    cases b' with
    | int j u =>
      show (keyIs (.inl i) (.int j u) = true) ↔ _
      constructor
      · intro z
        have z : (j == i) = true := z
        rw [beq_iff_eq] at z
        rw [z]
      · intro z
        cases z
        exact keyIs_int i u
    | text y u => exact ⟨fun z => (by cases z), fun z => (by cases z)⟩
  | text x t =>
    cases b' with
    | int j u => exact ⟨fun z => (by cases z), fun z => (by cases z)⟩
    | text y u =>
      constructor
      · intro z
        have z : (y == x) = true := z
        rw [beq_iff_eq] at z
        rw [z]
      · intro z
        cases z
        exact keyIs_str x u
structure SetS (w : World) (h : Heap) (a : Addr) (L : Es) (es : Array (Int × Value)) (ep : Nat) (t : SetTable) : Prop where
  ob : ∃ o, h.get? a = some o ∧ o.ExactSet ∧ o.data = .set es ep t
  rows : es.toList = rws w L
  nd : (L.map (·.2)).Nodup
  led : w.params.followText "set-order" = true ∨ t.led = true
  fits : t.fits es.size = true
  ris : Ris t.place.toList
  few : L.length < 4096
  bk : ∀ p ∈ L, BK p.2 p.1
theorem rws_len {L : Es} {es : Array (Int × Value)} (h : es.toList = rws w L) : es.size = L.length := by
  have h := congrArg List.length h
  unfold rws at h
  rw [Array.length_toList, List.length_map] at h
  exact h
theorem elems_of {L : Es} (h : ∀ p ∈ L, BK p.2 p.1) : ElemsOf (mixKind P w) (rws w L) := fun e he => by
  obtain ⟨p, hp, rfl⟩ := List.mem_map.mp he
  exact ⟨⟨kx p.2, (h p hp).mix, (h p hp).hash⟩, (h p hp).sc⟩
theorem perm_rows {l : List (Int × Value)} {L : Es} (h : l.Perm (rws w L)) : ∃ L2, l = rws w L2 ∧ L2.Perm L := by
  have : ∀ (l m : List (Int × Value)), l.Perm m → ∀ L, m = rws w L → ∃ L2, l = rws w L2 ∧ L2.Perm L := by
    intro l m h
    induction h with
    | nil => intro L e; exact ⟨L, e, .refl _⟩
    | @cons x l m _ ih =>
      intro L e
      cases L with
      | nil => cases e
      | cons p L =>
        injection e with e1 e2
        obtain ⟨L2, a, b⟩ := ih L e2
        exact ⟨p :: L2, by rw [a, e1]; rfl, b.cons p⟩
    | swap x y l =>
      intro L e
      match L, e with
      | p :: q :: L, e =>
        injection e with e1 e2
        injection e2 with e2 e3
        exact ⟨q :: p :: L, by rw [e1, e2, e3]; rfl, .swap _ _ _⟩
    | trans _ _ ih1 ih2 =>
      intro L e
      obtain ⟨L2, a, b⟩ := ih2 L e
      obtain ⟨L3, c, d⟩ := ih1 L2 a
      exact ⟨L3, c, d.trans b⟩
  exact this l _ h L rfl
theorem addS_tail {g : Bool → Sem Unit} (hg : ∀ (b : Bool) (s₁ : Shared) (Q' : Unit → Shared → Prop), Q' () s₁ → wpAny (model P w) A (g b) Q' E s₁)
    {o : Obj} {es : Array (Int × Value)} {ep : Nat} {t : SetTable} (ho : s.heap.get? a = some o) (hex : o.ExactSet) (hd : o.data = .set es ep t)
    {es1 : Array (Int × Value)} {t2 : SetTable} {L1 : Es} (r1 : es1.toList = rws w L1) (nd1 : (L1.map (·.2)).Nodup) (b1 : ∀ p ∈ L1, BK p.2 p.1) (few : L1.length < 4096)
    (hf2 : t2.fits es1.size = true) (hr : Ris t2.place.toList) (hl : w.params.followText "set-order" = true ∨ t2.led = true) {wasDummy : Bool} {R : Option Bool → Shared → Prop}
    (hR : ∀ h' L' es' ep' t', Heap.SameBut a s.heap h' → SetS w h' a L' es' ep' t' → L'.Perm L1 → R (some true) { s with heap := h' }) :
    wpAny (model P w) A (do
        storeSet a es1 t2
        if (!wasDummy && t2.tooFull) = true then do
            g (relayAll t2 es1 (SetTable.grown es1.size)).2.2
            storeSet a (relayAll t2 es1 (SetTable.grown es1.size)).1 (relayAll t2 es1 (SetTable.grown es1.size)).2.1
            pure (some true)
          else pure (some true)) R E s := by
  have hs1 : es1.size = L1.length := rws_len r1
  have hb1 : es1.size < scanBound := by rw [hs1]; unfold scanBound; omega
  refine wpAny_bind (wpAny_storeSet_of ho hd ?_ (fits_of_scanBound hb1))
  have ho1 := store_at (es' := es1) (t' := t2) ho hd
  have sb1 := Heap.SameBut.update s.heap a (Obj.putSet es1 t2)
  split
  · have pm := relayAll_perm t2 es1 (SetTable.grown es1.size)
    have hf3 := relayAll_fits t2 es1 (SetTable.grown es1.size)
    have hr3 := relayAll_ris t2 es1 (SetTable.grown es1.size)
    have hl3 := relayAll_led t2 es1 (SetTable.grown es1.size)
    generalize relayAll t2 es1 (SetTable.grown es1.size) = Z at pm hf3 hr3 hl3 ⊢
    obtain ⟨es2, t3, gave⟩ := Z
    dsimp only at pm hf3 hr3 hl3 ⊢
    rw [r1] at pm
    obtain ⟨L2, e2, p2⟩ := perm_rows pm
    have hb2 : es2.size < scanBound := by rw [rws_len e2, p2.length_eq]; unfold scanBound; omega
    refine wpAny_bind (hg _ _ _ ?_)
    refine wpAny_bind (wpAny_storeSet_of ho1 rfl ?_ (fits_of_scanBound hb2))
    have ho2 := store_at (es' := es2) (t' := t3) ho1 rfl
    refine wpAny_pure (hR _ L2 es2 (ep + 1 + 1) t3 (sb1.trans (Heap.SameBut.update _ a _)) ?_ p2)
    exact ⟨⟨_, ho2, hex, rfl⟩, e2, (p2.map (·.2)).nodup_iff.mpr nd1, hl.imp id fun z => (by rw [hl3]; exact z), hf3, hr3, by rw [p2.length_eq]; exact few, fun p hp => b1 p (p2.mem_iff.mp hp)⟩
  · exact wpAny_pure (hR _ L1 es1 (ep + 1) t2 sb1 ⟨⟨_, ho1, hex, rfl⟩, r1, nd1, hl, hf2, hr, few, b1⟩ (.refl _))
theorem addS (R : SetS w s.heap a L es ep t) {x : Value} {k : NestedKey} (hx : BK k x) (hfew : L.length + 1 < 4096) {Q : Bool → Shared → Prop}
    (hQ : ∀ b h' L' es' ep' t', Heap.SameBut a s.heap h' → SetS w h' a L' es' ep' t' → (k ∈ L.map (·.2) → L' = L) → (k ∉ L.map (·.2) → L'.Perm ((x, k) :: L)) → Q b { s with heap := h' }) :
    wpAny (model P w) A (setAddHashed a x (nh w k)) Q E s := by
  obtain ⟨o, ho, hex, hd⟩ := R.ob
  have hsc := hx.sc
  have hel : ElemsOf (mixKind P w) es.toList := by rw [R.rows]; exact elems_of R.bk
  have hb : es.size < scanBound := by rw [rws_len R.rows]; unfold scanBound; omega
  have hf := R.fits
  unfold setAddHashed setAddHashedIn
  refine wpAny_holding (wpAny_bind (wpAny_setState_of ho hd hf ?_))
  dsimp only
  rw [byScan_of hsc hb hel]
  simp only [↓reduceIte]
  unfold setAddByScan
  refine wpAny_bind ?_
  refine wpAny_bind (wpAny_rule ?_)
  rw [hx.hash (P := P)]
  refine wpAny_bind (wpAny_setScan_of hx.mix ho hd hf hel ?_)
  rw [← hx.hash (P := P)]
  have hm : k ∈ L.map (·.2) ↔ ∃ e ∈ es.toList, (mixKind P w).is (kx k) e.2 = true := by
    rw [R.rows, List.mem_map]
    constructor
    · rintro ⟨p, hp, e⟩
      exact ⟨_, List.mem_map.mpr ⟨p, hp, rfl⟩, (hx.iff (R.bk p hp)).mpr e⟩
    · rintro ⟨e, he, q⟩
      obtain ⟨p, hp, rfl⟩ := List.mem_map.mp he
      exact ⟨p, hp, (hx.iff (R.bk p hp)).mp q⟩
  cases hfi : List.findIdx? (fun e => (mixKind P w).is (kx k) e.2) es.toList with
  | some j =>
    dsimp only
    obtain ⟨hj, pj, _⟩ := List.findIdx?_eq_some_iff_getElem.mp hfi
    have hk : k ∈ L.map (·.2) := hm.mpr ⟨es.toList[j], List.getElem_mem hj, pj⟩
    exact wpAny_pure (wpAny_pure (hQ false s.heap L es ep t (Heap.SameBut.refl a s.heap) R (fun _ => rfl) fun z => absurd hk z))
  | none =>
    dsimp only
    have hnk : k ∉ L.map (·.2) := fun z => by
      obtain ⟨e, he, q⟩ := hm.mp z
      have c := List.findIdx?_eq_none_iff.mp hfi e he
      rw [q] at c
      cases c
    have hgw : ∀ (b : Bool) {s₁ : Shared} {Q' : Unit → Shared → Prop}, Q' () s₁ → wpAny (model P w) A (match b with | true => rule "set.scan.the-table-gave-way" | false => pure ()) Q' E s₁ :=
      fun b s₁ Q' q => by cases b <;> first | exact wpAny_pure q | exact wpAny_rule q
    have pm := layNew_perm t es (nh w k) x
    have hf1 := layNew_fits t es (nh w k) x
    have hr1 := layNew_ris t es (nh w k) x R.ris
    have hl1 := layNew_led t es (nh w k) x
    generalize layNew t es (nh w k) x = Z at pm hf1 hr1 hl1 ⊢
    obtain ⟨es1, t1, wasDummy, gave⟩ := Z
    dsimp only at pm hf1 hr1 hl1 ⊢
    rw [Array.toList_push] at pm
    have pc : es1.toList.Perm (rws w ((x, k) :: L)) := by
      refine (pm.trans (List.perm_append_singleton _ _)).trans ?_
      rw [R.rows]
      exact .refl _
    obtain ⟨L1, r1, p1⟩ := perm_rows pc
    have nd1 : (L1.map (·.2)).Nodup := (p1.map (·.2)).nodup_iff.mpr (List.nodup_cons.mpr ⟨hnk, R.nd⟩)
    have b1 : ∀ p ∈ L1, BK p.2 p.1 := fun p hp => by
      rcases List.mem_cons.mp (p1.mem_iff.mp hp) with z | z
      · rw [z]; exact hx
      · exact R.bk p z
    have f1 : L1.length < 4096 := by rw [p1.length_eq]; exact hfew
    have hled : w.params.followText "set-order" = true ∨ t1.led = true := R.led.imp id fun z => by rw [hl1]; exact z
    have fin : ∀ h' L' es' ep' t', Heap.SameBut a s.heap h' → SetS w h' a L' es' ep' t' → L'.Perm L1 → Q true { s with heap := h' } := fun h' L' es' ep' t' sb r pp =>
      hQ true h' L' es' ep' t' sb r (fun z => absurd z hnk) fun _ => pp.trans p1
    refine wpAny_bind (hgw _ ?_)
    split
    · refine wpAny_bind ?_
      refine hashBy_key k x 8 A E _ (hx.nested _) fun bb => ?_
      refine addS_tail ?_ ho hex hd r1 nd1 b1 f1 ?_ ?_ ?_ ?_
      · intro b s₁ Q' q; cases b <;> first | exact wpAny_pure q | exact wpAny_rule q
      · first | (split <;> first | exact hf1 | exact SetTable.fits_plain_off hf1) | exact hf1
      · first | (split <;> exact hr1) | exact hr1
      · first | (split <;> exact hled) | exact hled
      · intro h' L' es' ep' t' sb r pp; dsimp only; exact wpAny_pure (fin h' L' es' ep' t' sb r pp)
    · refine wpAny_bind (wpAny_pure ?_)
      simp only [↓reduceIte]
      refine addS_tail ?_ ho hex hd r1 nd1 b1 f1 hf1 hr1 hled ?_
      · intro b s₁ Q' q; cases b <;> first | exact wpAny_pure q | exact wpAny_rule q
      · intro h' L' es' ep' t' sb r pp; dsimp only; exact wpAny_pure (fin h' L' es' ep' t' sb r pp)
end
end PLS

/-! Sets of keys: set(xs), sorted of a set, len of a set. -/
namespace PLS
open PySem PySem.Spec PyProof.Rows L2
open PySem.W (dataLe dataLt alike AllAlike EachIs)
def KM (m : Bool) (h : Heap) (k : NestedKey) (v : Value) : Prop := match m with
  | true => TK h k v
  | false => BK k v
def SM (m : Bool) (w : World) (h : Heap) (a : Addr) (L : Es) : Prop := match m with
  | true => ∃ es ep t, SetP w h a L es ep t
  | false => ∃ es ep t, SetS w h a L es ep t
section
variable {P : Program} {w : World} {A : Around} {E : Value → Shared → Prop} {s : Shared} {m : Bool} {a : Addr} {L : Es}
theorem KM.keep {h h' : Heap} {k : NestedKey} {v : Value} (x : KM m h k v) (hk : ∀ a o, h.get? a = some o → h'.get? a = some o) : KM m h' k v := by
  cases m with
  | true => exact TK.keep x fun a o _ _ e _ => hk a o e
  | false => exact x
theorem KM.nested {h : Heap} {k : NestedKey} {v : Value} (x : KM m h k v) : NestedIs h k v ∧ k.depth ≤ 8 := by
  cases m with
  | true => exact ⟨TK.is x, TK.deep x⟩
  | false => exact ⟨BK.nested x h, by cases (show BK k v from x) <;> (rw [NestedKey.depth]; omega)⟩
theorem SM.keep {h h' : Heap} (R : SM m w h a L) (ha : ∀ o, h.get? a = some o → h'.get? a = some o) (ht : ∀ p ∈ L, KM m h' p.2 p.1) : SM m w h' a L := by
  cases m with
  | true =>
    obtain ⟨es, ep, t, R⟩ := R
    obtain ⟨o, ho, r⟩ := R.ob
    exact ⟨es, ep, t, ⟨o, ha o ho, r⟩, R.rows, R.tab, R.nd, R.led, R.room, R.few, ht⟩
  | false =>
    obtain ⟨es, ep, t, R⟩ := R
    obtain ⟨o, ho, r⟩ := R.ob
    exact ⟨es, ep, t, ⟨o, ha o ho, r⟩, R.rows, R.nd, R.led, R.fits, R.ris, R.few, R.bk⟩
/-- how many keys there may be: tuples, others -/
def setLim : Bool → Nat
  | true => 76
  | false => 4096
theorem lim_of {m : Bool} {n : Nat} (h : n < 75) : n + 1 < setLim m := by
  cases m
  · show n + 1 < 4096
    omega
  · show n + 1 < 76
    omega
theorem lim_le (m : Bool) : setLim m ≤ 4096 := by
  cases m
  · exact Nat.le_refl _
  · show 76 ≤ 4096
    omega
theorem SM.ob {h : Heap} (R : SM m w h a L) : ∃ o es ep t, h.get? a = some o ∧ o.ExactSet ∧ o.data = .set es ep t ∧ t.fits es.size = true ∧ Ris t.place.toList ∧ (w.params.followText "set-order" = true ∨ t.led = true) ∧ es.toList = rws w L ∧ L.length < setLim m ∧ (L.map (·.2)).Nodup := by
  cases m with
  | true =>
    obtain ⟨es, ep, t, R⟩ := R
    obtain ⟨o, ho, hx, hd⟩ := R.ob
    exact ⟨o, es, ep, t, ho, hx, hd, R.fits, R.tab.ris, R.led, R.rows, R.few, R.nd⟩
  | false =>
    obtain ⟨es, ep, t, R⟩ := R
    obtain ⟨o, ho, hx, hd⟩ := R.ob
    exact ⟨o, es, ep, t, ho, hx, hd, R.fits, R.ris, R.led, R.rows, R.few, R.nd⟩
theorem sm_fresh (m : Bool) {h : Heap} {a : Addr} (ho : h.get? a = some { cls := .type "set", dict := none, data := .set #[] 0 (.fresh 0 0 (!w.params.followText "set-order")) }) : SM m w h a [] := by
  have ld : w.params.followText "set-order" = true ∨ (!w.params.followText "set-order") = true := by
    cases w.params.followText "set-order"
    · exact .inr rfl
    · exact .inl rfl
  cases m with
  | true =>
    refine ⟨#[], 0, _, ⟨_, ho, ⟨rfl, rfl, rfl⟩, rfl⟩, rfl, ⟨List.Pairwise.nil, rfl, rfl, .inl rfl, fun x hx => (by cases hx), fun i h j hi => (by simp at hi)⟩, List.nodup_nil, ld, ?_, by decide, fun p hp => (by cases hp)⟩
    show 0 * 5 < 7 * 3
    decide
  | false => exact ⟨#[], 0, _, ⟨_, ho, ⟨rfl, rfl, rfl⟩, rfl⟩, rfl, List.nodup_nil, ld, by rfl, List.Pairwise.nil, by decide, fun p hp => (by cases hp)⟩
theorem addM (R : SM m w s.heap a L) {x : Value} {k : NestedKey} (hx : KM m s.heap k x) (hu : A.units + 8 < cLine) (hfew : L.length + 1 < setLim m) {Q : Bool → Shared → Prop}
    (hQ : ∀ b h' L' tk, s.toks ≤ tk → Heap.SameBut a s.heap h' → SM m w h' a L' → (k ∈ L.map (·.2) → L' = L) → (k ∉ L.map (·.2) → L'.Perm ((x, k) :: L)) → Q b { s with heap := h', toks := tk }) :
    wpAny (model P w) A (setAdd a x) Q E s := by
  unfold setAdd
  refine wpAny_holding ?_
  obtain ⟨hn, hd⟩ := hx.nested
  refine wpAny_bind (pyHash_key k x A s _ hn (by omega) ?_)
  have hx' : KM m ({ s with toks := s.toks + k.draws } : Shared).heap k x := hx
  cases m with
  | true =>
    obtain ⟨es, ep, t, R⟩ := R
    exact addP (s := { s with toks := s.toks + k.draws }) R hx' hu hfew fun b h' L' es' ep' t' sb r c1 c2 => hQ b h' L' _ (Nat.le_add_right _ _) sb ⟨es', ep', t', r⟩ c1 c2
  | false =>
    obtain ⟨es, ep, t, R⟩ := R
    exact addS (s := { s with toks := s.toks + k.draws }) R hx' hfew fun b h' L' es' ep' t' sb r c1 c2 => hQ b h' L' _ (Nat.le_add_right _ _) sb ⟨es', ep', t', r⟩ c1 c2
/-- what the set has got from the first i items -/
structure GotM (ks : Es) (i : Nat) (L : Es) : Prop where
  sub : ∀ p ∈ L, p ∈ ks.take i
  all : ∀ p ∈ ks.take i, p.2 ∈ L.map (·.2)
theorem GotM.zero (ks : Es) : GotM ks 0 [] := ⟨fun p h => (by cases h), fun p h => (by simp at h)⟩
theorem GotM.same {ks L : Es} {i : Nat} {x : Value × NestedKey} (g : GotM ks i L) (h : ks[i]? = some x) (hm : x.2 ∈ L.map (·.2)) : GotM ks (i + 1) L := by
  refine ⟨fun p hp => ?_, fun p hp => ?_⟩
  · rw [take_next h]
    exact List.mem_append_left _ (g.sub p hp)
  · rw [take_next h] at hp
    rcases List.mem_append.mp hp with z | z
    · exact g.all p z
    · rw [List.mem_singleton.mp z]
      exact hm
theorem GotM.more {ks L L' : Es} {i : Nat} {x : Value × NestedKey} (g : GotM ks i L) (h : ks[i]? = some x) (pm : L'.Perm (x :: L)) : GotM ks (i + 1) L' := by
  refine ⟨fun p hp => ?_, fun p hp => ?_⟩
  · rw [take_next h]
    rcases List.mem_cons.mp (pm.mem_iff.mp hp) with z | z
    · rw [z]
      exact List.mem_append_right _ List.mem_cons_self
    · exact List.mem_append_left _ (g.sub p z)
  · rw [take_next h] at hp
    rw [(pm.map (·.2)).mem_iff, List.map_cons]
    rcases List.mem_append.mp hp with z | z
    · exact List.mem_cons_of_mem _ (g.all p z)
    · rw [List.mem_singleton.mp z]
      exact List.mem_cons_self
theorem nodup_le {D : List NestedKey} : ∀ {l : List NestedKey}, l.Nodup → (∀ x ∈ l, x ∈ D) → l.length ≤ D.length := by
  induction D with
  | nil =>
    intro l hn hs
    cases l with
    | nil => exact Nat.le_refl _
    | cons x l => exact absurd (hs x List.mem_cons_self) (by simp)
  | cons d D ih =>
    intro l hn hs
    have h := ih (l := l.erase d) (hn.erase d) fun x hx => by
      have hx2 : x ∈ l := List.mem_of_mem_erase hx
      rcases List.mem_cons.mp (hs x hx2) with e | e
      · rw [e] at hx
        exact absurd hx hn.not_mem_erase
      · exact e
    have hle : l.length ≤ (l.erase d).length + 1 := by
      by_cases hd : d ∈ l
      · rw [List.length_erase_of_mem hd]
        omega
      · rw [List.erase_of_not_mem hd]
        omega
    rw [List.length_cons]
    omega
theorem SM.lt {h : Heap} (R : SM m w h a L) {ks : Es} {i : Nat} (g : GotM ks i L) {D : List NestedKey} (hD : D.length + 1 < setLim m) (hk : ∀ p ∈ ks, p.2 ∈ D) : L.length + 1 < setLim m := by
  obtain ⟨_, _, _, _, _, _, _, _, _, _, _, _, nd⟩ := R.ob
  have h := nodup_le (D := D) nd fun x hx => by
    obtain ⟨p, hp, e⟩ := List.mem_map.mp hx
    rw [← e]
    exact hk p (List.mem_of_mem_take (g.sub p hp))
  rw [List.length_map] at h
  omega
/-- set.update's loop -/
theorem updM {I : Addr} {fp wr : List Addr} {G : Array GenState → Array GenState → Prop} {n : Nat} {Pv : Nat → Value → Prop} {St : Nat → Shared → Prop} {R : Result → Shared → Prop}
    (W : WalksS P w A.in1 I fp wr G n Pv St) (S : Addr) (hSf : S ∉ fp) (ks : Es) (hn : n = ks.length) {D : List NestedKey} (hD : D.length + 1 < setLim m) (hks : ∀ p ∈ ks, p.2 ∈ D) (hval : ∀ i v, Pv i v → ∃ p, ks[i]? = some p ∧ v = p.1)
    (h0 : Heap) (hk : ∀ p ∈ ks, KM m h0 p.2 p.1) (hS0 : h0.get? S = none) (hw0 : ∀ b ∈ wr, h0.get? b = none) (hu : A.in1.units + 8 < cLine) :
    ∀ (k i : Nat) (s : Shared), n - i = k → i ≤ n → St i s → (∀ b o, h0.get? b = some o → s.heap.get? b = some o) → (∃ L, SM m w s.heap S L ∧ GotM ks i L) →
      (∀ s' L, Moved (S :: wr) G s s' → SM m w s'.heap S L → GotM ks n L → (∀ b o, h0.get? b = some o → s'.heap.get? b = some o) → R (.ok (.ret .none)) s') →
      codeAny (model P w) A (.builtin "set.update.loop" ⟨[.ref S, .ref I], []⟩) R s := by
  have hSw : S ∉ wr := fun h => hSf (W.sub _ h)
  have hsub : ∀ b ∈ wr, b ∈ S :: wr := fun b hb => List.mem_cons_of_mem _ hb
  have keepM : ∀ {s s' : Shared}, Moved wr G s s' → (∀ b o, h0.get? b = some o → s.heap.get? b = some o) → ∀ b o, h0.get? b = some o → s'.heap.get? b = some o := fun hm hkp b o e =>
    hm.heap b o (fun hb => by rw [hw0 b hb] at e; cases e) (hkp b o e)
  intro k
  induction k with
  | zero =>
    intro i s hk' hi hst hkp ⟨L, hS, g⟩ hR
    have hin : i = n := by omega
    subst hin
    refine codeAny_builtin F.entry_set_update_loop ?_
    rw [Around.under_plainId F.plain_set_update_loop _]
    show wpAny _ A.in1 (pyNext (.ref I) >>= _) _ _ s
    refine wpAny_bind (W.done s _ _ hst fun s' hm => ?_)
    show wpAny _ A.in1 (ret Value.none) _ _ s'
    have hkp' := keepM hm hkp
    have sub : ∀ p ∈ L, p ∈ ks := fun p hp => List.mem_of_mem_take (g.sub p hp)
    exact wpAny_pure (hR s' L (hm.mono hsub) (hS.keep (fun o e => hm.heap S o hSw e) fun p hp => (hk p (sub p hp)).keep hkp') g hkp')
  | succ k ih =>
    intro i s hk' hi hst hkp ⟨L, hS, g⟩ hR
    have hlt : i < n := by omega
    refine codeAny_builtin F.entry_set_update_loop ?_
    rw [Around.under_plainId F.plain_set_update_loop _]
    show wpAny _ A.in1 (pyNext (.ref I) >>= _) _ _ s
    refine wpAny_bind (W.item i s _ _ hlt hst fun v s' hP hst' hm => ?_)
    obtain ⟨p, hp, rfl⟩ := hval i v hP
    have hkp' := keepM hm hkp
    have sub : ∀ p ∈ L, p ∈ ks := fun p hp => List.mem_of_mem_take (g.sub p hp)
    have hS' : SM m w s'.heap S L := hS.keep (fun o e => hm.heap S o hSw e) fun q hq => (hk q (sub q hq)).keep hkp'
    have hx : KM m s'.heap p.2 p.1 := (hk p (List.mem_of_getElem? hp)).keep hkp'
    show wpAny _ A.in1 (holding [p.1] (setAdd S p.1) >>= _) _ _ s'
    refine wpAny_bind (wpAny_holding ?_)
    refine addM hS' hx hu (hS'.lt g hD hks) fun b h' L' tk htk hsb hS2 c1 c2 => ?_
    have g' : GotM ks (i + 1) L' := by
      rcases Classical.em (p.2 ∈ L.map (·.2)) with c | c
      · rw [c1 c]; exact g.same hp c
      · exact g.more hp (c2 c)
    have hkp2 : ∀ b o, h0.get? b = some o → h'.get? b = some o := fun b o e => (hsb.2 b (fun z => by rw [z, hS0] at e; cases e)).trans (hkp' b o e)
    refine wpAny_pure ⟨plainId_quiet F.plain_set_update_loop _, ih (i + 1) _ (by omega) hlt (W.frame _ s' _ _ hst' htk fun b hb o e => ?_) hkp2 ⟨L', hS2, g'⟩ fun s'' L2 hm'' hS'' g'' hkp'' => ?_⟩
    · rw [hsb.2 b (fun h : b = S => hSf (by rw [← h]; exact hb))]; exact e
    · refine hR s'' L2 (Moved.trans W.gtrans ((hm.mono hsub).then_heap htk fun b o hb e => ?_) hm'') hS'' g'' hkp''
      rw [hsb.2 b (fun h : b = S => hb (by rw [h]; exact List.mem_cons_self))]; exact e
set_option maxHeartbeats 3200000 in
theorem call_set_listM {l : Addr} {items : Array Value} (ks : Es) {Q : Value → Shared → Prop} (hh : A.handled = none) (hl : s.heap.IsList l items) (hit : items.toList = ks.map (·.1))
    (hk : ∀ p ∈ ks, KM m s.heap p.2 p.1) {D : List NestedKey} (hD : D.length + 1 < setLim m) (hks : ∀ p ∈ ks, p.2 ∈ D) (hu : A.units + 16 < cLine)
    (h : ∀ (h' : Heap) (tk : Nat) L, SM m w h' s.heap.objs.size L → GotM ks ks.length L → (∀ b o, s.heap.get? b = some o → h'.get? b = some o) → Q (.ref s.heap.objs.size) { s with heap := h', toks := tk }) :
    wpAny (model P w) A (call (.type "set") [.ref l]) Q E s := by
  have hisz : items.size = ks.length := by
    have q := congrArg List.length hit
    rw [Array.length_toList, List.length_map] at q
    exact q
  obtain ⟨c, tl, hmro⟩ := F.called_set.mro
  have hmade := F.called_set.made
  have hsub := F.called_set.sub
  refine wpAny_call (codeAny_of_tree ?_)
  show wpAny _ _ (callAny (.type "set") _) _ _ _
  refine wpAny_pure ⟨Code.quiet_builtin _ (by decide +kernel), codeAny_builtin F.entry_type_call ?_⟩
  rw [Around.under_plain (weight_type_call_type "set" [.ref l] []) rfl]
  have h1 := F.called_set.notType
  have h2 := F.called_set.canCreate
  have hct := F.typeCall_set_1 (.ref l)
  repeat (any_goals (first | assumption | wp_step))
  refine codeAny_mono (code_set_led1 (.ref l) (E := E) (Q₁ := fun obj s₁ => obj = .ref s.heap.objs.size ∧ s₁ = { s with heap := s.heap.push { cls := .type "set", dict := none, data := .set #[] 0 (.fresh 0 0 (!w.params.followText "set-order")) } }) ⟨rfl, rfl⟩) fun r s₁ hr => ?_
  cases r with
  | error e => exact hr
  | ok fl =>
    cases fl with
    | ret obj =>
      obtain ⟨rfl, rfl⟩ := hr
      have hS : (s.heap.push { cls := .type "set", dict := none, data := .set #[] 0 (.fresh 0 0 (!w.params.followText "set-order")) }).get? s.heap.objs.size = some { cls := .type "set", dict := none, data := .set #[] 0 (.fresh 0 0 (!w.params.followText "set-order")) } := Heap.get?_push_size _ rfl
      have hT : Shared.TypeIs { s with heap := s.heap.push { cls := .type "set", dict := none, data := .set #[] 0 (.fresh 0 0 (!w.params.followText "set-order")) } } (.ref s.heap.objs.size) "set" := ⟨_, hS, rfl⟩
      have hli := F.called_set.init.lookup
      have hbi := F.called_set.init.bind (.ref s.heap.objs.size)
      repeat (any_goals (first | assumption | wp_step))
      refine codeAny_mono (codeAny_call_builtin (R := wants (fun r s₂ => r = .none ∧ ∃ h' tk L, s₂ = { s with heap := h', toks := tk } ∧ SM m w h' s.heap.objs.size L ∧ GotM ks ks.length L ∧
          (∀ b o, s.heap.get? b = some o → h'.get? b = some o)) E) F.called_set.init.plain F.entry_set_init (check_set_init_1 hT ?_)) fun r₂ s₂ hr₂ => ?_
      · obtain ⟨ol, hol, hcl, nl, hdl⟩ := hl
        obtain ⟨ocls, odict, odata, oslots⟩ := ol
        simp only at hcl hdl
        subst hcl; subst hdl
        have hol' : (s.heap.push { cls := .type "set", dict := none, data := .set #[] 0 (.fresh 0 0 (!w.params.followText "set-order")) }).get? l = some { cls := .type "list", dict := odict, data := .seq items nl, slots := oslots } := Heap.get?_push_of_some _ hol
        have hsls := F.sub_list_set
        have hslf := F.sub_list_frozenset
        have hne : (Value.type "list" == Value.type "dict") = false := by decide
        have hl1 : (s.heap.push { cls := .type "set", dict := none, data := .set #[] 0 (.fresh 0 0 (!w.params.followText "set-order")) }).IsList l items := ⟨_, hol', rfl, nl, rfl⟩
        unfold Builtin.«set.__init__» noKeywords Builtin.Frozenset.updateFrom
        generalize hPI : pyIter = PI
        wp_walk
        subst hPI
        refine wpAny_pyIter_list hl1 ?_
        refine wpAny_bind (wpAny_runValue ?_)
        have hlS : l < s.heap.objs.size := Heap.lt_size hol
        have hh3 : A.in1.in1.in1.handled = none := by simp [hh]
        have hneI : l ≠ (s.heap.push { cls := .type "set", dict := none, data := .set #[] 0 (.fresh 0 0 (!w.params.followText "set-order")) }).objs.size := by
          rw [Heap.size_push]; exact Nat.ne_of_lt (Nat.lt_succ_of_lt hlS)
        have hSf : s.heap.objs.size ∉ [(s.heap.push { cls := .type "set", dict := none, data := .set #[] 0 (.fresh 0 0 (!w.params.followText "set-order")) }).objs.size, l] := by
          rw [Heap.size_push]; simp only [List.mem_cons, List.mem_singleton, List.not_mem_nil, or_false, not_or]
          exact ⟨Nat.ne_of_lt (Nat.lt_succ_self _), Nat.ne_of_gt hlS⟩
        have hval : ∀ (i : Nat) (v : Value), items[i]? = some v → ∃ p, ks[i]? = some p ∧ v = p.1 := fun i v hv => by
          have q : items.toList[i]? = some v := by rw [Array.getElem?_toList]; exact hv
          rw [hit, List.getElem?_map] at q
          cases hq : ks[i]? with
          | none => rw [hq] at q; cases q
          | some p =>
            rw [hq] at q
            exact ⟨p, rfl, (Option.some.inj q).symm⟩
        have none_of : ∀ b, s.heap.objs.size ≤ b → s.heap.get? b = none := fun b hb => by
          cases q : s.heap.get? b with
          | none => rfl
          | some o => exact absurd (Nat.lt_of_lt_of_le (Heap.lt_size q) hb) (Nat.lt_irrefl _)
        refine updM (m := m) ((Walks.list hh3 _ l hneI items).toS) s.heap.objs.size
          hSf ks hisz hD hks hval s.heap hk (none_of _ (Nat.le_refl _)) (fun b hb => none_of b (by
            rw [List.mem_singleton.mp hb, Heap.size_push]
            exact Nat.le_succ _)) (by simp only [Around.in1_units]; omega) (items.size - 0) 0 _ (by omega) (Nat.zero_le _)
          ⟨⟨_, Heap.get?_push_size _ rfl, rfl, rfl⟩, (hl1.push _)⟩ (fun b o e => Heap.get?_push_of_some _ (Heap.get?_push_of_some _ e)) ?hS0 ?hR
        case hS0 =>
          exact ⟨[], sm_fresh m (Heap.get?_push_of_some _ hS), GotM.zero ks⟩
        case hR =>
          intro s' L hm hS' g' hkp
          obtain ⟨h', g2, d', tk', os'⟩ := s'
          have eg : g2 = s.gens := hm.gens
          have ed : d' = s.drawn := hm.drawn
          have eo : os' = s.os := hm.os
          subst eg; subst ed; subst eo
          show wpAny _ _ _ _ _ _
          refine wpAny_pure ?_
          show wpAny _ _ (ret Value.none) _ _ _
          rw [hisz] at g'
          exact wpAny_pure ⟨rfl, h', tk', L, rfl, hS', g', hkp⟩
      · cases r₂ with
        | error e => exact hr₂
        | ok fl₂ =>
          cases fl₂ with
          | ret r =>
            obtain ⟨rfl, h', tk, L, rfl, hS', g', hk'⟩ := hr₂
            repeat (any_goals (first | assumption | wp_step))
            exact h _ _ _ hS' g' hk'
          | _ => exact hr₂.elim
    | _ => exact hr.elim
set_option maxHeartbeats 3200000 in
theorem call_set_tupleM {l : Addr} {items : Array Value} (ks : Es) {Q : Value → Shared → Prop} (hh : A.handled = none) (hl : s.heap.IsTuple l items) (hit : items.toList = ks.map (·.1))
    (hk : ∀ p ∈ ks, KM m s.heap p.2 p.1) {D : List NestedKey} (hD : D.length + 1 < setLim m) (hks : ∀ p ∈ ks, p.2 ∈ D) (hu : A.units + 16 < cLine)
    (h : ∀ (h' : Heap) (tk : Nat) L, SM m w h' s.heap.objs.size L → GotM ks ks.length L → (∀ b o, s.heap.get? b = some o → h'.get? b = some o) → Q (.ref s.heap.objs.size) { s with heap := h', toks := tk }) :
    wpAny (model P w) A (call (.type "set") [.ref l]) Q E s := by
  have hisz : items.size = ks.length := by
    have q := congrArg List.length hit
    rw [Array.length_toList, List.length_map] at q
    exact q
  obtain ⟨c, tl, hmro⟩ := F.called_set.mro
  have hmade := F.called_set.made
  have hsub := F.called_set.sub
  refine wpAny_call (codeAny_of_tree ?_)
  show wpAny _ _ (callAny (.type "set") _) _ _ _
  refine wpAny_pure ⟨Code.quiet_builtin _ (by decide +kernel), codeAny_builtin F.entry_type_call ?_⟩
  rw [Around.under_plain (weight_type_call_type "set" [.ref l] []) rfl]
  have h1 := F.called_set.notType
  have h2 := F.called_set.canCreate
  have hct := F.typeCall_set_1 (.ref l)
  repeat (any_goals (first | assumption | wp_step))
  refine codeAny_mono (code_set_led1 (.ref l) (E := E) (Q₁ := fun obj s₁ => obj = .ref s.heap.objs.size ∧ s₁ = { s with heap := s.heap.push { cls := .type "set", dict := none, data := .set #[] 0 (.fresh 0 0 (!w.params.followText "set-order")) } }) ⟨rfl, rfl⟩) fun r s₁ hr => ?_
  cases r with
  | error e => exact hr
  | ok fl =>
    cases fl with
    | ret obj =>
      obtain ⟨rfl, rfl⟩ := hr
      have hS : (s.heap.push { cls := .type "set", dict := none, data := .set #[] 0 (.fresh 0 0 (!w.params.followText "set-order")) }).get? s.heap.objs.size = some { cls := .type "set", dict := none, data := .set #[] 0 (.fresh 0 0 (!w.params.followText "set-order")) } := Heap.get?_push_size _ rfl
      have hT : Shared.TypeIs { s with heap := s.heap.push { cls := .type "set", dict := none, data := .set #[] 0 (.fresh 0 0 (!w.params.followText "set-order")) } } (.ref s.heap.objs.size) "set" := ⟨_, hS, rfl⟩
      have hli := F.called_set.init.lookup
      have hbi := F.called_set.init.bind (.ref s.heap.objs.size)
      repeat (any_goals (first | assumption | wp_step))
      refine codeAny_mono (codeAny_call_builtin (R := wants (fun r s₂ => r = .none ∧ ∃ h' tk L, s₂ = { s with heap := h', toks := tk } ∧ SM m w h' s.heap.objs.size L ∧ GotM ks ks.length L ∧
          (∀ b o, s.heap.get? b = some o → h'.get? b = some o)) E) F.called_set.init.plain F.entry_set_init (check_set_init_1 hT ?_)) fun r₂ s₂ hr₂ => ?_
      · obtain ⟨ol, hol, hcl, nl, hdl⟩ := hl
        obtain ⟨ocls, odict, odata, oslots⟩ := ol
        simp only at hcl hdl
        subst hcl; subst hdl
        have hol' : (s.heap.push { cls := .type "set", dict := none, data := .set #[] 0 (.fresh 0 0 (!w.params.followText "set-order")) }).get? l = some { cls := .type "tuple", dict := odict, data := .seq items nl, slots := oslots } := Heap.get?_push_of_some _ hol
        have hsls := F.sub_tuple_set
        have hslf := F.sub_tuple_frozenset
        have hne : (Value.type "tuple" == Value.type "dict") = false := by decide
        have hl1 : (s.heap.push { cls := .type "set", dict := none, data := .set #[] 0 (.fresh 0 0 (!w.params.followText "set-order")) }).IsTuple l items := ⟨_, hol', rfl, nl, rfl⟩
        unfold Builtin.«set.__init__» noKeywords Builtin.Frozenset.updateFrom
        generalize hPI : pyIter = PI
        wp_walk
        subst hPI
        refine wpAny_pyIter_tuple hl1 ?_
        refine wpAny_bind (wpAny_runValue ?_)
        have hlS : l < s.heap.objs.size := Heap.lt_size hol
        have hh3 : A.in1.in1.in1.handled = none := by simp [hh]
        have hneI : l ≠ (s.heap.push { cls := .type "set", dict := none, data := .set #[] 0 (.fresh 0 0 (!w.params.followText "set-order")) }).objs.size := by
          rw [Heap.size_push]; exact Nat.ne_of_lt (Nat.lt_succ_of_lt hlS)
        have hSf : s.heap.objs.size ∉ [(s.heap.push { cls := .type "set", dict := none, data := .set #[] 0 (.fresh 0 0 (!w.params.followText "set-order")) }).objs.size, l] := by
          rw [Heap.size_push]; simp only [List.mem_cons, List.mem_singleton, List.not_mem_nil, or_false, not_or]
          exact ⟨Nat.ne_of_lt (Nat.lt_succ_self _), Nat.ne_of_gt hlS⟩
        have hval : ∀ (i : Nat) (v : Value), items[i]? = some v → ∃ p, ks[i]? = some p ∧ v = p.1 := fun i v hv => by
          have q : items.toList[i]? = some v := by rw [Array.getElem?_toList]; exact hv
          rw [hit, List.getElem?_map] at q
          cases hq : ks[i]? with
          | none => rw [hq] at q; cases q
          | some p =>
            rw [hq] at q
            exact ⟨p, rfl, (Option.some.inj q).symm⟩
        have none_of : ∀ b, s.heap.objs.size ≤ b → s.heap.get? b = none := fun b hb => by
          cases q : s.heap.get? b with
          | none => rfl
          | some o => exact absurd (Nat.lt_of_lt_of_le (Heap.lt_size q) hb) (Nat.lt_irrefl _)
        refine updM (m := m) ((Walks.tuple hh3 _ l hneI items).toS) s.heap.objs.size
          hSf ks hisz hD hks hval s.heap hk (none_of _ (Nat.le_refl _)) (fun b hb => none_of b (by
            rw [List.mem_singleton.mp hb, Heap.size_push]
            exact Nat.le_succ _)) (by simp only [Around.in1_units]; omega) (items.size - 0) 0 _ (by omega) (Nat.zero_le _)
          ⟨⟨_, Heap.get?_push_size _ rfl, rfl, rfl⟩, (hl1.push _)⟩ (fun b o e => Heap.get?_push_of_some _ (Heap.get?_push_of_some _ e)) ?hS0 ?hR
        case hS0 =>
          exact ⟨[], sm_fresh m (Heap.get?_push_of_some _ hS), GotM.zero ks⟩
        case hR =>
          intro s' L hm hS' g' hkp
          obtain ⟨h', g2, d', tk', os'⟩ := s'
          have eg : g2 = s.gens := hm.gens
          have ed : d' = s.drawn := hm.drawn
          have eo : os' = s.os := hm.os
          subst eg; subst ed; subst eo
          show wpAny _ _ _ _ _ _
          refine wpAny_pure ?_
          show wpAny _ _ (ret Value.none) _ _ _
          rw [hisz] at g'
          exact wpAny_pure ⟨rfl, h', tk', L, rfl, hS', g', hkp⟩
      · cases r₂ with
        | error e => exact hr₂
        | ok fl₂ =>
          cases fl₂ with
          | ret r =>
            obtain ⟨rfl, h', tk, L, rfl, hS', g', hk'⟩ := hr₂
            repeat (any_goals (first | assumption | wp_step))
            exact h _ _ _ hS' g' hk'
          | _ => exact hr₂.elim
    | _ => exact hr.elim
end
end PLS

/-! Sets of keys: the readings. -/
namespace PLS
open PySem PySem.Spec PyProof.Rows L2
open PySem.W (dataLe dataLt alike AllAlike EachIs)
abbrev Vk := List (V × NestedKey)
/-- v is the key k -/
def KV (m : Bool) (K : PySem.W.Frag) (H : Hp) (k : NestedKey) (v : V) : Prop := match m with
  | true => (∃ a, v = .ref a) ∧ k.depth ≤ 8 ∧ Dp K H v k.data
  | false => (∃ i, k = .num i ∧ v = .int i) ∨ ∃ x, k = .text x ∧ v = .str x
section
variable {X : Cx} {pins : List (Addr × Obj)} {σ : L2.St} {H : Hp} {s : Shared} {m : Bool}
mutual
theorem nested_of (I : Inv X pins σ H s) : ∀ (k : NestedKey) (v : V) (u : Value), Dp X.K H v k.data → RelV v u → NestedIs s.heap k u
  | .none, v, u, h, r => by
    rw [NestedKey.data] at h
    cases h
    obtain rfl : u = Value.none := r
    exact .none
  | .num i, v, u, h, r => by
    rw [NestedKey.data] at h
    cases h
    obtain ⟨t, rfl⟩ := r
    exact .int i t
  | .text x, v, u, h, r => by
    rw [NestedKey.data] at h
    cases h
    obtain ⟨t, rfl⟩ := r
    exact .text x t
  | .tup ks, v, u, h, r => by
    rw [NestedKey.data] at h
    cases h with
    | tup hq ha =>
      cases r
      obtain ⟨its, rv, ⟨o, ho, hc, n, hd⟩, _⟩ := I.tuple hq
      exact .tup ho hc hd (by simpa using nested_all I ks _ _ ha rv)
theorem nested_all (I : Inv X pins σ H s) : ∀ (ks : List NestedKey) (vs : List V) (us : List Value), DpAll X.K H vs (NestedKey.datas ks) → Vals vs us → NestedAll s.heap ks us
  | [], vs, us, h, r => by
    rw [NestedKey.datas] at h
    cases h
    cases r
    exact .nil
  | k :: ks, vs, us, h, r => by
    rw [NestedKey.datas] at h
    cases h with
    | cons h1 h2 =>
      cases r with
      | cons r1 r2 => exact .cons (nested_of I k _ _ h1 r1) (nested_all I ks _ _ h2 r2)
end
theorem KV.km (I : Inv X pins σ H s) {k : NestedKey} {v : V} {u : Value} (h : KV m X.K H k v) (r : RelV v u) : KM m s.heap k u := by
  cases m with
  | true =>
    obtain ⟨⟨a, rfl⟩, hd, hp⟩ := h
    exact ⟨nested_of I k _ _ hp r, hd, a, r⟩
  | false =>
    rcases h with ⟨i, rfl, rfl⟩ | ⟨x, rfl, rfl⟩
    · obtain ⟨t, rfl⟩ := r
      exact BK.int i t
    · obtain ⟨t, rfl⟩ := r
      exact BK.text x t
theorem KV.dp {k : NestedKey} {v : V} {K : PySem.W.Frag} (h : KV m K H k v) : Dp K H v k.data := by
  cases m with
  | true => exact h.2.2
  | false =>
    rcases h with ⟨i, rfl, rfl⟩ | ⟨x, rfl, rfl⟩
    · rw [NestedKey.data]; exact .int i
    · rw [NestedKey.data]; exact .str x
mutual
theorem data_depth : ∀ k : NestedKey, k.data.depth ≤ k.depth
  | .none => by rw [NestedKey.data, NestedKey.depth]; exact Nat.le_refl _
  | .num i => by rw [NestedKey.data, NestedKey.depth]; exact Nat.le_refl _
  | .text x => by rw [NestedKey.data, NestedKey.depth]; exact Nat.le_refl _
  | .tup ks => by
    rw [NestedKey.data, NestedKey.depth, PyData.depth]
    have := datas_depth ks
    omega
theorem datas_depth : ∀ ks : List NestedKey, PyData.depthAll (NestedKey.datas ks) ≤ NestedKey.depthAll ks
  | [] => by rw [NestedKey.datas, NestedKey.depthAll]; exact Nat.le_refl _
  | k :: ks => by
    rw [NestedKey.datas, NestedKey.depthAll, PyData.depthAll]
    have := data_depth k
    have := datas_depth ks
    omega
end
theorem KV.deep {k : NestedKey} {v : V} {K : PySem.W.Frag} (h : KV m K H k v) : k.data.depth ≤ 8 := by
  refine Nat.le_trans (data_depth k) ?_
  cases m with
  | true => exact h.2.1
  | false =>
    rcases h with ⟨i, rfl, rfl⟩ | ⟨x, rfl, rfl⟩ <;> (rw [NestedKey.depth]; omega)
/-- the set at a, as it is known in the abstract heap -/
def SM0 (m : Bool) (w : World) (h : Heap) (a : Addr) (L : Vk) : Prop := ∃ (L' : Es) (h0 : Heap), SM m w h0 a L' ∧ (∀ o, h0.get? a = some o → h.get? a = some o) ∧ Vals (L.map (·.1)) (L'.map (·.1)) ∧ L'.map (·.2) = L.map (·.2)
def SetMO (m : Bool) (w : World) (a : Addr) (L : Vk) : HO := .ext fun h => SM0 m w h a L
theorem setMO_new {P : Program} {w : World} {H : Hp} {h : Heap} {a : Addr} {L : Vk} (R : SM0 m w h a L) : ObjOk P w H h a (SetMO m w a L) := by
  obtain ⟨L', h0, S, k, r⟩ := id R
  obtain ⟨o, _, _, _, ho, _⟩ := S.ob
  refine ⟨R, ⟨o, k o ho⟩, fun h1 h2 p q => ?_⟩
  obtain ⟨L2, h3, S2, k2, r2⟩ := p
  exact ⟨L2, h3, S2, fun o e => q o (k2 o e), r2⟩
theorem zip_vals : ∀ {L : Vk} {L' : Es}, Vals (L.map (·.1)) (L'.map (·.1)) → L'.map (·.2) = L.map (·.2) → ∀ p ∈ L', ∃ q ∈ L, RelV q.1 p.1 ∧ p.2 = q.2
  | [], [], _, _, p, hp => by cases hp
  | [], _ :: _, h, _, _, _ => by cases h
  | _ :: _, [], h, _, _, _ => by cases h
  | q :: L, p :: L', h, e, r, hr => by
    cases h with
    | cons h1 h2 =>
      injection e with e1 e2
      rcases List.mem_cons.mp hr with rfl | hr
      · exact ⟨q, List.mem_cons_self, h1, e1⟩
      · obtain ⟨q', a, b⟩ := zip_vals h2 e2 r hr
        exact ⟨q', List.mem_cons_of_mem _ a, b⟩
theorem sm0_get (I : Inv X pins σ H s) {a : Addr} {L : Vk} (h : H a = some (SetMO m X.w a L)) (hk : ∀ p ∈ L, KV m X.K H p.2 p.1) : ∃ L' : Es, SM m X.w s.heap a L' ∧ Vals (L.map (·.1)) (L'.map (·.1)) ∧ L'.map (·.2) = L.map (·.2) := by
  have R : SM0 m X.w s.heap a L := (I.hok a _ h).1
  obtain ⟨L', h0, S, k, r1, r2⟩ := R
  refine ⟨L', S.keep k fun p hp => ?_, r1, r2⟩
  obtain ⟨q, hq, e1, e2⟩ := zip_vals r1 r2 p hp
  rw [e2]
  exact (hk q hq).km I e1
/-- values and their keys in step -/
def KVs (m : Bool) (K : PySem.W.Frag) (H : Hp) (zs : Vk) : Prop := ∀ z ∈ zs, KV m K H z.2 z.1
theorem es_of {zs : Vk} {us : List Value} (r : Vals (zs.map (·.1)) us) : ∃ ks : Es, us = ks.map (·.1) ∧ ks.map (·.2) = zs.map (·.2) ∧ (∀ p ∈ ks, ∃ z ∈ zs, RelV z.1 p.1 ∧ p.2 = z.2) := by
  have e1 : (us.zip (zs.map (·.2))).map (·.1) = us := List.map_fst_zip (by rw [List.length_map, ← r.length, List.length_map]; exact Nat.le_refl _)
  have e2 : (us.zip (zs.map (·.2))).map (·.2) = zs.map (·.2) := List.map_snd_zip (by rw [List.length_map, ← r.length, List.length_map]; exact Nat.le_refl _)
  exact ⟨us.zip (zs.map (·.2)), e1.symm, e2, zip_vals (by rw [e1]; exact r) e2⟩
/-- a sub-row of the keyed values, known by its values -/
theorem back_vk {zs : Vk} : ∀ (L : Es), (∀ p ∈ L, ∃ z ∈ zs, RelV z.1 p.1 ∧ p.2 = z.2) → ∃ L' : Vk, (∀ z ∈ L', z ∈ zs) ∧ Vals (L'.map (·.1)) (L.map (·.1)) ∧ L.map (·.2) = L'.map (·.2)
  | [], _ => ⟨[], fun z hz => (by cases hz), .nil, rfl⟩
  | p :: L, h => by
    obtain ⟨z, hz, r1, r2⟩ := h p List.mem_cons_self
    obtain ⟨L', a, b, c⟩ := back_vk L fun q hq => h q (List.mem_cons_of_mem _ hq)
    refine ⟨z :: L', fun y hy => ?_, .cons r1 b, by rw [List.map_cons, List.map_cons, c, r2]⟩
    rcases List.mem_cons.mp hy with e | e
    · rw [e]; exact hz
    · exact a y e
/-- set(xs) -/
def rSetM (K : PySem.W.Frag) (w : World) : List V → Hp → VK → Prop := fun xs H Q => ∃ (m : Bool) (l : Addr) (zs : Vk) (D : List NestedKey), xs = [V.ref l] ∧ (SqL K H l (zs.map (·.1)) ∨ SqT K H l (zs.map (·.1))) ∧ KVs m K H zs ∧ D.length + 1 < setLim m ∧ (∀ z ∈ zs, z.2 ∈ D) ∧
  ∀ a L, H a = none → (∀ z ∈ L, z ∈ zs) → (L.map (·.2)).Nodup → (∀ z ∈ zs, z.2 ∈ L.map (·.2)) → Q (.ref a) (upd H a (SetMO m w a L))
theorem cr_setM (hc : X.calm = true) (hu : X.A.units + 64 < cLine) : CallR X (.type "set") (rSetM X.K X.w) := by
  intro pins s σ H xs us Q I r h
  obtain ⟨m, l, zs, D, rfl, hl, hk, hD, hs, q⟩ := h
  rw [Vals.ref1 r]
  have fin : ∀ (its : List Value), Vals (zs.map (·.1)) its → ∀ ks : Es, its = ks.map (·.1) → ks.map (·.2) = zs.map (·.2) → (∀ p ∈ ks, ∃ z ∈ zs, RelV z.1 p.1 ∧ p.2 = z.2) →
      ∀ (h' : Heap) (tk : Nat) L, SM m X.w h' s.heap.objs.size L → GotM ks ks.length L → (∀ b o, s.heap.get? b = some o → h'.get? b = some o) → EP X pins σ Q (.ref s.heap.objs.size) { s with heap := h', toks := tk } := fun its rv ks e1 e2 e3 h' tk L R g k => by
    obtain ⟨L', a1, a2, a3⟩ := back_vk L fun p hp => e3 p (List.mem_of_mem_take (g.sub p hp))
    have hn : H s.heap.objs.size = none := I.hok.fresh (Nat.le_refl _)
    refine ⟨.ref s.heap.objs.size, upd H s.heap.objs.size (SetMO m X.w s.heap.objs.size L'), I.laid (t' := tk) k (Nat.le_refl _) (setMO_new ⟨L, h', R, fun o e => e, a2, a3⟩), rfl, q _ L' hn a1 ?_ fun z hz => ?_⟩
    · rw [← a3]
      obtain ⟨_, _, _, _, _, _, _, _, _, _, _, _, nd⟩ := R.ob
      exact nd
    · rw [← a3]
      have hz2 : z.2 ∈ ks.map (·.2) := by rw [e2]; exact List.mem_map.mpr ⟨z, hz, rfl⟩
      obtain ⟨p, hp, ep⟩ := List.mem_map.mp hz2
      rw [← ep]
      exact g.all p (by rw [List.take_length]; exact hp)
  rcases hl with hl | hl
  · obtain ⟨its, rv, pl, hz⟩ := I.list hl
    obtain ⟨ks, e1, e2, e3⟩ := es_of rv
    refine call_set_listM (P := X.prog) (w := X.w) (m := m) (D := D) ks (I.ok.hd hc) pl.isList (by simpa using e1) (fun p hp => ?_) hD (fun p hp => ?_) (by omega) fun h' tk L R g k => fin its rv ks e1 e2 e3 h' tk L R g k
    · obtain ⟨z, hz, r1, r2⟩ := e3 p hp
      rw [r2]
      exact (hk z hz).km I r1
    · obtain ⟨z, hz, r1, r2⟩ := e3 p hp
      rw [r2]
      exact hs z hz
  · obtain ⟨its, rv, pl, hz⟩ := I.tuple hl
    obtain ⟨ks, e1, e2, e3⟩ := es_of rv
    refine call_set_tupleM (P := X.prog) (w := X.w) (m := m) (D := D) ks (I.ok.hd hc) pl (by simpa using e1) (fun p hp => ?_) hD (fun p hp => ?_) (by omega) fun h' tk L R g k => fin its rv ks e1 e2 e3 h' tk L R g k
    · obtain ⟨z, hz, r1, r2⟩ := e3 p hp
      rw [r2]
      exact (hk z hz).km I r1
    · obtain ⟨z, hz, r1, r2⟩ := e3 p hp
      rw [r2]
      exact hs z hz
/-- len of a set -/
def rLenM (K : PySem.W.Frag) (w : World) : List V → Hp → VK → Prop := fun xs H Q => ∃ (m : Bool) (a : Addr) (L : Vk), xs = [V.ref a] ∧ H a = some (SetMO m w a L) ∧ KVs m K H L ∧ Q (.int L.length) H
theorem cr_lenM : CallR X (.builtin "len") (rLenM X.K X.w) := by
  intro pins s σ H xs us Q I r h
  obtain ⟨m, a, L, rfl, ha, hk, q⟩ := h
  rw [Vals.ref1 r]
  obtain ⟨L', R, r1, r2⟩ := sm0_get I ha hk
  obtain ⟨o, es, ep, t, ho, hx, hd, hf, _, _, hr, fw, _⟩ := R.ob
  have fl := lim_le m
  have hl : es.size = L.length := by
    rw [rws_len hr, ← List.length_map (·.2), r2, List.length_map]
  have fw' : L'.length = L.length := by rw [← List.length_map (·.2), r2, List.length_map]
  refine call_len_set ho hx hd hf (by rw [hl]; omega) ⟨.int L.length, H, I.tok _, ⟨_, by rw [hl]⟩, q⟩
end
theorem perm_map {α β : Type} {f : α → β} : ∀ {l m : List β}, l.Perm m → ∀ L : List α, m = L.map f → ∃ L2 : List α, l = L2.map f ∧ L2.Perm L := by
  intro l m h
  induction h with
  | nil => intro L e; exact ⟨L, e, .refl _⟩
  | @cons x l m _ ih =>
    intro L e
    cases L with
    | nil => cases e
    | cons p L =>
      injection e with e1 e2
      obtain ⟨L2, a, b⟩ := ih L e2
      exact ⟨p :: L2, by rw [a, e1]; rfl, b.cons p⟩
  | swap x y l =>
    intro L e
    match L, e with
    | p :: q :: L, e =>
      injection e with e1 e2
      injection e2 with e2 e3
      exact ⟨q :: p :: L, by rw [e1, e2, e3]; rfl, .swap _ _ _⟩
  | trans _ _ ih1 ih2 =>
    intro L e
    obtain ⟨L2, a, b⟩ := ih2 L e
    obtain ⟨L3, c, d⟩ := ih1 L2 a
    exact ⟨L3, c, d.trans b⟩
theorem each_self {β : Type} {R : Value → β → Prop} {f : β → Value} : ∀ (l : List β), (∀ b ∈ l, R (f b) b) → EachIs R (l.map f) l
  | [], _ => .nil
  | b :: l, h => .cons (h b List.mem_cons_self) (each_self l fun c hc => h c (List.mem_cons_of_mem _ hc))
theorem each_eq {β : Type} {f : β → Value} : ∀ {vs : List Value} {bs : List β}, EachIs (fun v b => v = f b) vs bs → vs = bs.map f
  | _, _, .nil => rfl
  | _, _, .cons h t => by rw [h, each_eq t]; rfl
section
variable {P : Program} {w : World} {A : Around} {E : Value → Shared → Prop} {s : Shared} {m : Bool} {a : Addr} {L : Es}
theorem sorted_setM {Q : Value → Shared → Prop} (R : SM m w s.heap a L) (hh : A.handled = none) (er : ∀ p ∈ L, ∃ as, Reads s.heap p.1 p.2.data as) (hal : AllAlike (L.map fun p => p.2.data)) (hk : PySem.W.Sortable (L.map fun p => p.2.data)) (hdp : ∀ p ∈ L, p.2.data.depth ≤ 8) (hu : A.units + 64 < cLine)
    (hQ : ∀ s' p (out : List Value) (c : Nat) (L1 : Es), (∀ b o, s.heap.get? b = some o → s'.heap.get? b = some o) → s'.gens = s.gens → s'.os = s.os → s.heap.objs.size ≤ p →
      s'.heap.get? p = some (seqObj "list" out.toArray c) → L1.Perm L → out = (L1.mergeSort (dataLe false fun p => p.2.data)).map (·.1) → Q (.ref p) s') :
    wpAny (model P w) A (call (.builtin "sorted") [.ref a]) Q E s := by
  obtain ⟨o, es, ep, t, ho, hex, hd, hf, hri, hld, hr, fw, nd⟩ := R.ob
  have fl := lim_le m
  have hsz : es.size = L.length := rws_len hr
  refine Calls.call_function_entry kind_sorted plain_sorted entry_sorted (args_sorted1 _) ?_
  unfold Builtin.«sorted»
  refine wpAny_bind (m := checkCount "sorted" 1 1 _) (wpAny_pure ?_)
  refine wpAny_bind (collect_set (A := A.in1) hh ⟨o, ho, hex.1, hd⟩ hf (by unfold scanBound; omega) hri hld fun s1 vs k1 hz g1 o1 pm => ?_)
  have hes : es.toList.map (·.2) = L.map (·.1) := by
    rw [hr]
    unfold rws
    rw [List.map_map]
    rfl
  rw [hes] at pm
  obtain ⟨L1, e1, p1⟩ := perm_map (f := fun p : Value × NestedKey => p.1) pm L rfl
  have hvl : vs.length ≤ sizeLine := by rw [pm.length_eq, List.length_map, sizeLine_eq]; omega
  refine wpAny_bind (wpAny_newList ?_ hvl)
  have hoL : (s1.heap.push (seqObj "list" vs.toArray 0)).get? s1.heap.objs.size = some (seqObj "list" vs.toArray 0) := Heap.get?_push_size _ rfl
  have hm1 : ∀ p ∈ L1, p ∈ L := fun p hp => p1.mem_iff.mp hp
  have hmd : (L1.map fun p => p.2.data).Perm (L.map fun p => p.2.data) := p1.map _
  have al1 : AllAlike (L1.map fun p => p.2.data) := fun x hx y hy => hal x (hmd.mem_iff.mp hx) y (hmd.mem_iff.mp hy)
  have so1 : PySem.W.Sortable (L1.map fun p => p.2.data) := by
    rcases hk with h | h
    · exact .inl fun d hd => h d (hmd.mem_iff.mp hd)
    · exact .inr fun d hd => h d (hmd.mem_iff.mp hd)
  have ekeep : ∀ b u, s.heap.get? b = some u → (PySem.W.sortingHeap (s1.heap.push (seqObj "list" vs.toArray 0)) s1.heap.objs.size vs).get? b = some u := fun b u q => by
    have q1 := k1 b u q
    exact PySem.W.sortingHeap_old (Nat.ne_of_lt (Heap.lt_size q1)) (Heap.get?_push_of_some _ q1)
  have er' : EachIs (fun v (b : Value × NestedKey) => ∃ as, Reads (PySem.W.sortingHeap (s1.heap.push (seqObj "list" vs.toArray 0)) s1.heap.objs.size vs) v b.2.data as) vs L1 := by
    rw [e1]
    refine each_self L1 fun p hp => ?_
    obtain ⟨as, r⟩ := er p (hm1 p hp)
    exact ⟨as, PyProof.Rows.Reads.keeps (by rw [← e1]; exact ekeep) r⟩
  have es' : EachIs (fun v (b : Value × NestedKey) => v = b.1) vs L1 := by
    rw [e1]
    exact each_self L1 fun p hp => rfl
  refine wpAny_bind (wpAny_holding (wpAny_call_entry slot_list_sort ⟨_, hoL, rfl⟩ entry_list_sort (PySem.W.list_sort_vals (κ := PySem.W.dataKind (PySem.W.sortingHeap (s1.heap.push (seqObj "list" vs.toArray 0)) s1.heap.objs.size vs) (L1.map fun p => p.2.data)) hoL
    (PySem.W.SortsAt.data (s := { s1 with heap := PySem.W.sortingHeap (s1.heap.push (seqObj "list" vs.toArray 0)) s1.heap.objs.size vs }) (PySem.W.each_map (R := fun v d => ∃ as, Reads (PySem.W.sortingHeap (s1.heap.push (seqObj "list" vs.toArray 0)) s1.heap.objs.size vs) v d as) (fun p : Value × NestedKey => p.2.data) er') al1 so1 (PySem.W.bound_map fun b hb => ?_)) hvl ⟨.none, rfl, ?_⟩) (args_list_sort _)))
  · have := hdp b (hm1 b hb)
    simp only [Around.in1_units]
    omega
  · have so := PySem.W.sortVals_data false (R := fun v (b : Value × NestedKey) => v = b.1) (enc := fun p => p.2.data) es' er' al1
    have eo := each_eq so
    obtain ⟨c, hc⟩ := sortedHeap_at (vs := vs) (out := (PySem.W.sortVals (PySem.W.dataKind (PySem.W.sortingHeap (s1.heap.push (seqObj "list" vs.toArray 0)) s1.heap.objs.size vs) (L1.map fun p => p.2.data)) false vs vs).toArray) hoL
    refine wpAny_pure ⟨_, rfl, hQ _ s1.heap.objs.size _ c L1 (fun b u e => ?_) g1 o1 hz hc p1 eo⟩
    have q := k1 b u e
    have hlt := Heap.lt_size q
    show (sortedHeap (s1.heap.push (seqObj "list" vs.toArray 0)) s1.heap.objs.size vs _).get? b = some u
    rw [sortedHeap_old (Nat.ne_of_lt hlt) (by rw [size_push']; exact Nat.lt_succ_of_lt hlt)]
    exact Heap.get?_push_of_some _ q
end
section
variable {X : Cx} {pins : List (Addr × Obj)} {σ : L2.St} {H : Hp} {s : Shared} {m : Bool}
theorem perm_back : ∀ {L : Vk} {L' : Es}, Vals (L.map (·.1)) (L'.map (·.1)) → L'.map (·.2) = L.map (·.2) → ∃ Z : List ((V × NestedKey) × (Value × NestedKey)), L = Z.map (·.1) ∧ L' = Z.map (·.2) ∧ ∀ z ∈ Z, RelV z.1.1 z.2.1 ∧ z.2.2 = z.1.2
  | [], [], _, _ => ⟨[], rfl, rfl, fun z hz => (by cases hz)⟩
  | [], _ :: _, h, _ => by cases h
  | _ :: _, [], h, _ => by cases h
  | q :: L, p :: L', h, e => by
    cases h with
    | cons h1 h2 =>
      injection e with e1 e2
      obtain ⟨Z, a, b, c⟩ := perm_back h2 e2
      refine ⟨(q, p) :: Z, by rw [a]; rfl, by rw [b]; rfl, fun z hz => ?_⟩
      rcases List.mem_cons.mp hz with rfl | hz
      · exact ⟨h1, e1⟩
      · exact c z hz
theorem vals_map {α : Type} {f : α → V} {g : α → Value} : ∀ (l : List α), (∀ z ∈ l, RelV (f z) (g z)) → Vals (l.map f) (l.map g)
  | [], _ => .nil
  | z :: l, h => .cons (h z List.mem_cons_self) (vals_map l fun y hy => h y (List.mem_cons_of_mem _ hy))
/-- sorted of a set -/
def rSortedM (K : PySem.W.Frag) (w : World) : List V → Hp → VK → Prop := fun vs H Q => ∃ (m : Bool) (a : Addr) (L : Vk), vs = [V.ref a] ∧ H a = some (SetMO m w a L) ∧ KVs m K H L ∧ AllAlike (L.map fun z => z.2.data) ∧ PySem.W.Sortable (L.map fun z => z.2.data) ∧
  ∀ (L1 : Vk) (p : Addr), L1.Perm L → H p = none → Q (.ref p) (upd H p (.lst ((L1.mergeSort (dataLe false fun z => z.2.data)).map (·.1))))
theorem cr_sortedM (hc : X.calm = true) (hu : X.A.units + 64 < cLine) : CallR X (.builtin "sorted") (rSortedM X.K X.w) := by
  intro pins s σ H vs us Q I r h
  obtain ⟨m, a, L, rfl, ha, hk, al, so, q⟩ := h
  rw [Vals.ref1 r]
  obtain ⟨L', R, r1, r2⟩ := sm0_get I ha hk
  obtain ⟨Z, eL, eL', hZ⟩ := perm_back r1 r2
  have ed : (L'.map fun p => p.2.data) = L.map fun z => z.2.data := by
    have h1 : (L'.map fun p => p.2.data) = (L'.map (·.2)).map NestedKey.data := by rw [List.map_map]; rfl
    have h2 : (L.map fun p => p.2.data) = (L.map (·.2)).map NestedKey.data := by rw [List.map_map]; rfl
    rw [h1, h2, r2]
  refine sorted_setM R (I.ok.hd hc) (fun p hp => ?_) (by rw [ed]; exact al) (by rw [ed]; exact so) (fun p hp => ?_) hu fun s' p out c L1 k g o hp hg pm eo => ?_
  · obtain ⟨z, hz, e1, e2⟩ := zip_vals r1 r2 p hp
    rw [e2]
    exact Dp.reads I _ _ _ (hk z hz).dp e1
  · obtain ⟨z, hz, e1, e2⟩ := zip_vals r1 r2 p hp
    rw [e2]
    exact (hk z hz).deep
  · rw [eL'] at pm
    obtain ⟨Z1, e1, p1⟩ := perm_map pm Z rfl
    have em : (Z1.mergeSort (dataLe false fun z => z.2.2.data)).map (·.2) = L1.mergeSort (dataLe false fun p => p.2.data) := by
      rw [e1]
      exact List.map_mergeSort (r := dataLe false fun z : (V × NestedKey) × (Value × NestedKey) => z.2.2.data) (s := dataLe false fun p : Value × NestedKey => p.2.data) (f := fun z : (V × NestedKey) × (Value × NestedKey) => z.2) fun _ _ _ _ => rfl
    have mZ : ∀ z ∈ Z1, RelV z.1.1 z.2.1 ∧ z.2.2 = z.1.2 := fun z hz => hZ z (p1.mem_iff.mp hz)
    have eV : (Z1.mergeSort (dataLe false fun z => z.2.2.data)).map (·.1) = (Z1.map (·.1)).mergeSort (dataLe false fun p => p.2.data) := by
      refine List.map_mergeSort (r := dataLe false fun z : (V × NestedKey) × (Value × NestedKey) => z.2.2.data) (s := dataLe false fun p : V × NestedKey => p.2.data) (f := fun z : (V × NestedKey) × (Value × NestedKey) => z.1) fun x hx y hy => ?_
      rw [PySem.W.dataLe_eq, PySem.W.dataLe_eq]
      dsimp only
      rw [(mZ x hx).2, (mZ y hy).2]
    have mS : ∀ z ∈ Z1.mergeSort (dataLe false fun z => z.2.2.data), RelV z.1.1 z.2.1 := fun z hz => (mZ z ((List.mergeSort_perm _ _).mem_iff.mp hz)).1
    have hv : Vals (((Z1.map (·.1)).mergeSort (dataLe false fun p => p.2.data)).map (·.1)) out := by
      rw [eo, ← em, ← eV, List.map_map, List.map_map]
      exact vals_map _ mS
    have hn : H p = none := I.hok.fresh hp
    have hlen : (((Z1.map (·.1)).mergeSort (dataLe false fun p => p.2.data)).map (·.1)).length ≤ sizeLine := by
      obtain ⟨_, _, _, _, _, _, _, _, _, _, _, fw, _⟩ := R.ob
      have fl := lim_le m
      rw [List.length_map, List.length_mergeSort, List.length_map, p1.length_eq, ← List.length_map (·.2), ← eL', sizeLine_eq]
      omega
    have J : Inv X pins σ (upd H p (.lst (((Z1.map (·.1)).mergeSort (dataLe false fun p => p.2.data)).map (·.1)))) { s with heap := s'.heap, gens := s'.gens, drawn := s'.drawn, toks := s'.toks } :=
      I.call (ch := []) (Un.laid k hp hn) (I.hok.laid k hp ⟨hlen, out, c, hv, hg⟩) (by rw [g]; exact I.bare) (fun _ z => nomatch z)
    have e : s' = { s with heap := s'.heap, gens := s'.gens, drawn := s'.drawn, toks := s'.toks } := by
      cases s'
      cases s
      cases o
      rfl
    rw [e]
    exact ⟨.ref p, _, J, rfl, q (Z1.map (·.1)) p (by rw [eL]; exact p1.map _) hn⟩
end
end PLS

/-! Sets of keys in the pure layer: sorted(set(xs)), len(set(xs)). -/
namespace PL
open PySem PySem.Spec PyProof.Rows L2 PLS
open PySem.W (dataLe dataLt alike AllAlike EachIs)
mutual
def toK : Pv → NestedKey
  | .int i => .num i | .str x => .text x | .tup xs => .tup (toKs xs) | _ => .none
def toKs : List Pv → List NestedKey
  | [] => []
  | p :: ps => toK p :: toKs ps
end
mutual
/-- a key: whole numbers, texts, tuples of keys -/
def isK : Pv → Bool
  | .int _ => true | .str _ => true | .tup xs => isKs xs | _ => false
def isKs : List Pv → Bool
  | [] => true
  | p :: ps => isK p && isKs ps
end
mutual
theorem toK_inj : ∀ x y : Pv, isK x = true → isK y = true → toK x = toK y → x = y
  | .int i, y, _, hy, e => by
    cases y with
    | int j => simp only [toK] at e; injection e with e; rw [e]
    | str z => simp only [toK] at e; cases e
    | tup ys => simp only [toK] at e; cases e
    | _ => simp [isK] at hy
  | .str x, y, _, hy, e => by
    cases y with
    | int j => simp only [toK] at e; cases e
    | str z => simp only [toK] at e; injection e with e; rw [e]
    | tup ys => simp only [toK] at e; cases e
    | _ => simp [isK] at hy
  | .tup xs, y, hx, hy, e => by
    cases y with
    | int j => simp only [toK] at e; cases e
    | str z => simp only [toK] at e; cases e
    | tup ys =>
      simp only [toK] at e
      injection e with e
      rw [toKs_inj xs ys (by simpa [isK] using hx) (by simpa [isK] using hy) e]
    | _ => simp [isK] at hy
  | .non, _, h, _, _ => by simp [isK] at h
  | .bl _, _, h, _, _ => by simp [isK] at h
  | .lst _, _, h, _, _ => by simp [isK] at h
  | .dct _ _, _, h, _, _ => by simp [isK] at h
  | .ref _, _, h, _, _ => by simp [isK] at h
  | .ty _, _, h, _, _ => by simp [isK] at h
  | .scr _, _, h, _, _ => by simp [isK] at h
theorem toKs_inj : ∀ xs ys : List Pv, isKs xs = true → isKs ys = true → toKs xs = toKs ys → xs = ys
  | [], [], _, _, _ => rfl
  | [], _ :: _, _, _, e => by simp [toKs] at e
  | _ :: _, [], _, _, e => by simp [toKs] at e
  | x :: xs, y :: ys, hx, hy, e => by
    simp only [isKs, Bool.and_eq_true] at hx hy
    simp only [toKs] at e
    injection e with e1 e2
    rw [toK_inj x y hx.1 hy.1 e1, toKs_inj xs ys hx.2 hy.2 e2]
end
mutual
theorem toK_data : ∀ x : Pv, isK x = true → (toK x).data = toD x
  | .int i, _ => by rw [toK, NestedKey.data, toD]
  | .str x, _ => by rw [toK, NestedKey.data, toD]
  | .tup xs, h => by rw [toK, NestedKey.data, toD, toKs_data xs (by simpa [isK] using h)]
  | .non, h => by simp [isK] at h
  | .bl _, h => by simp [isK] at h
  | .lst _, h => by simp [isK] at h
  | .dct _ _, h => by simp [isK] at h
  | .ref _, h => by simp [isK] at h
  | .ty _, h => by simp [isK] at h
  | .scr _, h => by simp [isK] at h
theorem toKs_data : ∀ xs : List Pv, isKs xs = true → NestedKey.datas (toKs xs) = toDs xs
  | [], _ => by rw [toKs, NestedKey.datas, toDs]
  | x :: xs, h => by
    simp only [isKs, Bool.and_eq_true] at h
    rw [toKs, NestedKey.datas, toDs, toK_data x h.1, toKs_data xs h.2]
end
mutual
theorem isK_isD : ∀ x : Pv, isK x = true → isD x = true
  | .int i, _ => by rw [isD]
  | .str x, _ => by rw [isD]
  | .tup xs, h => by rw [isD]; exact isKs_isDs xs (by simpa [isK] using h)
  | .non, h => by simp [isK] at h
  | .bl _, h => by simp [isK] at h
  | .lst _, h => by simp [isK] at h
  | .dct _ _, h => by simp [isK] at h
  | .ref _, h => by simp [isK] at h
  | .ty _, h => by simp [isK] at h
  | .scr _, h => by simp [isK] at h
theorem isKs_isDs : ∀ xs : List Pv, isKs xs = true → isDs xs = true
  | [], _ => rfl
  | x :: xs, h => by
    simp only [isKs, Bool.and_eq_true] at h
    rw [isDs, isK_isD x h.1, isKs_isDs xs h.2]
    rfl
end
/-- carried by value, or a tuple -/
def kOk (m : Bool) : Pv → Prop
  | .int _ => m = false
  | .str _ => m = false
  | .tup xs => m = true ∧ isKs xs = true ∧ (toK (.tup xs)).depth ≤ 8
  | _ => False
theorem kOk.isK {m : Bool} {x : Pv} (h : kOk m x) : isK x = true := by
  cases x with
  | int i => rfl
  | str x => rfl
  | tup xs => rw [PL.isK]; exact h.2.1
  | _ => exact (show False from h).elim
theorem kOk.kv {m : Bool} {x : Pv} {K : PySem.W.Frag} {H : Hp} {S : Sto} {v : V} (h : kOk m x) (r : RepV K H S x v) : KV m K H (toK x) v := by
  cases x with
  | int i =>
    obtain rfl : m = false := h
    have e : v = .int i := r
    exact .inl ⟨i, by rw [toK], e⟩
  | str x =>
    obtain rfl : m = false := h
    have e : v = .str x := r
    exact .inr ⟨x, by rw [toK], e⟩
  | tup xs =>
    obtain ⟨rfl, h1, h2⟩ := h
    have hd := dp_of (.tup xs) v r (isK_isD _ (by rw [PL.isK]; exact h1))
    obtain ⟨a, vs, e1, _⟩ := r
    refine ⟨⟨a, e1⟩, h2, ?_⟩
    rw [toK_data _ (by rw [PL.isK]; exact h1)]
    exact hd
  | _ => exact (show False from h).elim
def setOk (xs : List Pv) : Prop := (∃ m, ∀ x ∈ xs, kOk m x) ∧ ∃ D : List Pv, D.length < 75 ∧ ∀ x ∈ xs, x ∈ D
/-- ys: what is in xs, each once -/
def setOf (xs ys : List Pv) : Prop := ys.Nodup ∧ ∀ y, y ∈ ys ↔ y ∈ xs
def sqP (S : Sto) : Pv → Option (List Pv)
  | .tup xs => some xs
  | x => rdL S x
theorem sqP_rep {K : PySem.W.Frag} {H : Hp} {S : Sto} (rs : RepS K H S) {p : Pv} {v : V} {xs : List Pv} (h : RepV K H S p v) (e : sqP S p = some xs) : ∃ a vs, v = .ref a ∧ (SqL K H a vs ∨ SqT K H a vs) ∧ RepVs K H S xs vs := by
  by_cases q : ∃ ys, p = .tup ys
  · obtain ⟨ys, rfl⟩ := q
    have e' : ys = xs := by simpa [sqP] using e
    subst e'
    obtain ⟨t, vs, e1, hq, r⟩ := h
    exact ⟨t, vs, e1, .inr hq, r⟩
  · have e' : rdL S p = some xs := by
      rw [← e]
      cases p <;> first | rfl | exact (q ⟨_, rfl⟩).elim
    obtain ⟨a, vs, e1, hq, r⟩ := rdL_rep rs h e'
    exact ⟨a, vs, e1, .inl hq, r⟩
def oSortedSet : On := fun ps S Q => match ps with
  | [x] => (match sqP S x with | some xs => setOk xs ∧ AllAlike (xs.map toD) ∧ PySem.W.Sortable (xs.map toD) ∧ ∀ ys, setOf xs ys → Q (.lst (sortP ys)) S | none => False)
  | _ => False
def oLenSet : On := fun ps S Q => match ps with
  | [x] => (match sqP S x with | some xs => setOk xs ∧ ∀ ys, setOf xs ys → Q (.int ys.length) S | none => False)
  | _ => False
/-- a row out of keyed values as a row of the pure ones -/
theorem row_of {K : PySem.W.Frag} {H : Hp} {S : Sto} {xs : List Pv} {vs : List V} (r : RepVs K H S xs vs) : ∀ (L : Vk), (∀ z ∈ L, z ∈ vs.zip (xs.map toK)) → ∃ ys : List Pv, L.map (·.2) = ys.map toK ∧ RepVs K H S ys (L.map (·.1)) ∧ ∀ y ∈ ys, y ∈ xs
  | [], _ => ⟨[], rfl, rfl, fun y hy => (by cases hy)⟩
  | z :: L, h => by
    obtain ⟨ys, a, b, c⟩ := row_of r L fun y hy => h y (List.mem_cons_of_mem _ hy)
    have hz := h z List.mem_cons_self
    rw [List.zip_map_right] at hz
    obtain ⟨q, hq, e⟩ := List.mem_map.mp hz
    have rq := r.zip q hq
    refine ⟨q.2 :: ys, ?_, ⟨z.1, L.map (·.1), rfl, ?_, b⟩, fun y hy => ?_⟩
    · rw [List.map_cons, List.map_cons, a, ← e]
      rfl
    · rw [← e]
      exact rq
    · rcases List.mem_cons.mp hy with rfl | hy
      · exact (List.of_mem_zip hq).2
      · exact c y hy
theorem nodup_map_of {f : Pv → NestedKey} : ∀ {l : List Pv}, (l.map f).Nodup → l.Nodup := fun {l} h => List.Pairwise.of_map f (fun _ _ hne e => hne (congrArg f e)) h
theorem set_row {K : PySem.W.Frag} {H : Hp} {S : Sto} {xs : List Pv} {vs : List V} (r : RepVs K H S xs vs) (hk : ∀ x ∈ xs, isK x = true) {L : Vk} (h1 : ∀ z ∈ L, z ∈ vs.zip (xs.map toK)) (h2 : (L.map (·.2)).Nodup) (h3 : ∀ z ∈ vs.zip (xs.map toK), z.2 ∈ L.map (·.2)) :
    ∃ ys : List Pv, setOf xs ys ∧ L.map (·.2) = ys.map toK ∧ RepVs K H S ys (L.map (·.1)) := by
  obtain ⟨ys, a, b, c⟩ := row_of r L h1
  refine ⟨ys, ⟨nodup_map_of (by rw [← a]; exact h2), fun y => ⟨c y, fun hy => ?_⟩⟩, a, b⟩
  have hy2 : toK y ∈ (vs.zip (xs.map toK)).map (·.2) := by
    rw [List.map_snd_zip (by rw [List.length_map, r.len]; exact Nat.le_refl _)]
    exact List.mem_map.mpr ⟨y, hy, rfl⟩
  obtain ⟨z, hz, ez⟩ := List.mem_map.mp hy2
  have hm := h3 z hz
  rw [ez, a] at hm
  obtain ⟨y', hy', e⟩ := List.mem_map.mp hm
  rw [← toK_inj y' y (hk _ (c _ hy')) (hk y hy) e]
  exact hy'
section
variable {X : Cx} {S0 : Sto} {H0 : Hp} {a : Expr} {fs : PFs} {pos p p2 q : Pos}
theorem zip_fst {K : PySem.W.Frag} {H : Hp} {S : Sto} {xs : List Pv} {vs : List V} (r : RepVs K H S xs vs) : (vs.zip (xs.map toK)).map (·.1) = vs := List.map_fst_zip (by rw [List.length_map, r.len]; exact Nat.le_refl _)
theorem kvs_of {K : PySem.W.Frag} {H : Hp} {S : Sto} {xs : List Pv} {vs : List V} {m : Bool} (r : RepVs K H S xs vs) (h : ∀ x ∈ xs, kOk m x) : KVs m K H (vs.zip (xs.map toK)) := fun z hz => by
  rw [List.zip_map_right] at hz
  obtain ⟨y, hy, e⟩ := List.mem_map.mp hz
  rw [← e]
  exact (h y.2 (List.of_mem_zip hy).2).kv (r.zip y hy)
theorem dset {K : PySem.W.Frag} {xs D : List Pv} {vs : List V} (hd : ∀ x ∈ xs, x ∈ D) : ∀ z ∈ vs.zip (xs.map toK), z.2 ∈ D.map toK := fun z hz => by
  obtain ⟨x, hx, e⟩ := List.mem_map.mp (List.of_mem_zip hz).2
  exact List.mem_map.mpr ⟨x, hd x hx, e⟩
theorem KV.upd {m : Bool} {K : PySem.W.Frag} {H : Hp} {S : Sto} {a : Addr} {o : HO} {x : Pv} {v : V} (rs : RepS K H S) (hn : H a = none) (h : kOk m x) (r : RepV K H S x v) : KV m K (upd H a o) (toK x) v :=
  h.kv (RepV.ext rs (Ext.newT (K := K) hn) _ _ r)
theorem kvs_upd {m : Bool} {K : PySem.W.Frag} {H : Hp} {S : Sto} {xs : List Pv} {vs : List V} {a : Addr} {o : HO} (rs : RepS K H S) (hn : H a = none) (r : RepVs K H S xs vs) (h : ∀ x ∈ xs, kOk m x) : KVs m K (upd H a o) (vs.zip (xs.map toK)) :=
  kvs_of (RepVs.ext rs (Ext.newT (K := K) hn) _ _ r) h
theorem pv_sortedSet (hc : X.calm = true) (hu : X.A.units + 64 < cLine) (hm : X.mg "sorted" = none) (hm2 : X.mg "set" = none) (ha : PVs X S0 H0 [a] fs) (hg : Gl X "sorted" := by rfl) (hg2 : Gl X "set" := by rfl)
    (he : starEach [.Call (.Name "set" p2) [a] [] q] X.env = (false, eval (.Call (.Name "set" p2) [a] [] q) X.env) :: starEach [] X.env := by rfl) (hpl : (backTo pos (starEach [] X.env)).any (·.1) = false := by rfl)
    (he2 : starEach [a] X.env = (false, eval a X.env) :: starEach [] X.env := by rfl) (hpl2 : (backTo q (starEach [] X.env)).any (·.1) = false := by rfl) :
    PV X S0 H0 (.Call (.Name "sorted" p) [.Call (.Name "set" p2) [a] [] q] [] pos) (fN oSortedSet fs) := by
  refine ⟨fN_mono (fun x S Q Q' h q => ?_) ha, PE.imp (pe_callB (cr_sortedM hc hu) hg hm (by decide +kernel) (pa_cons (pe_callTy (cr_setM hc hu) hg2 hm2 (by decide +kernel) ha.pa (by decide) (by decide) he2 hpl2) pa_nil he) (by decide) (by decide) he hpl) fun σ H Q ⟨ρ, S, re, rs, ex, h⟩ => ?_⟩
  · unfold oSortedSet at q ⊢
    split at q
    · split at q
      · exact ⟨q.1, q.2.1, q.2.2.1, fun ys hy => h _ _ (q.2.2.2 ys hy)⟩
      · exact q
    · exact q
  · refine ⟨ρ, S, re, rs, ex, ha.mono _ _ _ _ (fun ps S1 h vs H1 rv rs1 ex1 => ?_) h⟩
    unfold oSortedSet at h
    split at h
    · obtain ⟨v1, rfl, r1⟩ := rv.one
      split at h
      · rename_i xs e0
        obtain ⟨⟨⟨m, hk⟩, D, hD, hd⟩, al, so, h⟩ := h
        obtain ⟨t, vs, e1, hq, r⟩ := sqP_rep rs1 r1 e0
        have zf := zip_fst r
        have hkk : ∀ x ∈ xs, isK x = true := fun x hx => (hk x hx).isK
        refine ⟨m, t, vs.zip (xs.map toK), D.map toK, by rw [e1], by rw [zf]; exact hq, kvs_of r hk, by rw [List.length_map]; exact lim_of hD, dset (K := X.K) hd, fun b L hn l1 l2 l3 => ?_⟩
        have kL : KVs m X.K (upd H1 b (SetMO m X.w b L)) L := fun z hz => kvs_upd rs1 hn r hk z (l1 z hz)
        have dl : ∀ z ∈ L, ∃ x ∈ xs, z.2.data = toD x := fun z hz => by
          obtain ⟨x, hx, e⟩ := List.mem_map.mp (List.of_mem_zip (l1 z hz)).2
          exact ⟨x, hx, by rw [← e, toK_data x (hkk x hx)]⟩
        refine ⟨m, b, L, rfl, upd_same, kL, ?_, ?_, fun L1 p pm np => ?_⟩
        · intro d hd d' hd'
          obtain ⟨z, hz, rfl⟩ := List.mem_map.mp hd
          obtain ⟨z', hz', rfl⟩ := List.mem_map.mp hd'
          obtain ⟨x, hx, e⟩ := dl z hz
          obtain ⟨x', hx', e'⟩ := dl z' hz'
          rw [e, e']
          exact al _ (List.mem_map.mpr ⟨x, hx, rfl⟩) _ (List.mem_map.mpr ⟨x', hx', rfl⟩)
        · have mm : ∀ d ∈ L.map fun z => z.2.data, d ∈ xs.map toD := fun d hd => by
            obtain ⟨z, hz, rfl⟩ := List.mem_map.mp hd
            obtain ⟨x, hx, e⟩ := dl z hz
            rw [e]
            exact List.mem_map.mpr ⟨x, hx, rfl⟩
          rcases so with s1 | s1
          · exact .inl fun d hd => s1 d (mm d hd)
          · exact .inr fun d hd => s1 d (mm d hd)
        · have ml : ∀ z ∈ L1, z ∈ L := fun z hz => pm.mem_iff.mp hz
          obtain ⟨ys, sy, ek, ry⟩ := set_row r hkk (L := L1) (fun z hz => l1 z (ml z hz)) ((pm.map (·.2)).nodup_iff.mpr l2) fun z hz => (pm.map (·.2)).mem_iff.mpr (l3 z hz)
          have ext1 : Ext S1 H1 S1 (upd H1 b (SetMO m X.w b L)) := Ext.newT (K := X.K) hn
          have rs2 : RepS X.K (upd H1 b (SetMO m X.w b L)) S1 := rs1.newT hn
          have ry2 := RepVs.ext rs1 ext1 _ _ ry
          have em : (L1.mergeSort (dataLe false fun z => z.2.data)).map (·.1) = (((L1.map (·.1)).zip (toDs ys)).mergeSort (dataLe false (·.2))).map (·.1) := by
            have e3 : (L1.map (·.1)).zip (toDs ys) = L1.map fun z => (z.1, z.2.data) := by
              have e4 : toDs ys = L1.map fun z => z.2.data := by
                rw [toDs_map]
                have e5 : (L1.map fun z => z.2.data) = (L1.map (·.2)).map NestedKey.data := by rw [List.map_map]; rfl
                rw [e5, ek, List.map_map]
                exact List.map_congr_left fun y hy => (toK_data y (hkk y ((sy.2 y).mp hy))).symm
              rw [e4, List.zip_map']
            rw [e3, ← List.map_mergeSort (r := dataLe false fun z : V × NestedKey => z.2.data) (f := fun z : V × NestedKey => (z.1, z.2.data)) (fun _ _ _ _ => rfl), List.map_map]
            rfl
          rw [em]
          obtain ⟨a1, a2, a3⟩ := newL_k rs2 np (sort_rep ry2)
          exact h ys sy (.ref p) _ a1 a2 (ex1.trans (ext1.trans a3))
      · exact h.elim
    · exact h.elim
theorem pv_lenSet (hc : X.calm = true) (hu : X.A.units + 64 < cLine) (hm : X.mg "len" = none) (hm2 : X.mg "set" = none) (ha : PVs X S0 H0 [a] fs) (hg : Gl X "len" := by rfl) (hg2 : Gl X "set" := by rfl)
    (he : starEach [.Call (.Name "set" p2) [a] [] q] X.env = (false, eval (.Call (.Name "set" p2) [a] [] q) X.env) :: starEach [] X.env := by rfl) (hpl : (backTo pos (starEach [] X.env)).any (·.1) = false := by rfl)
    (he2 : starEach [a] X.env = (false, eval a X.env) :: starEach [] X.env := by rfl) (hpl2 : (backTo q (starEach [] X.env)).any (·.1) = false := by rfl) :
    PV X S0 H0 (.Call (.Name "len" p) [.Call (.Name "set" p2) [a] [] q] [] pos) (fN oLenSet fs) := by
  refine ⟨fN_mono (fun x S Q Q' h q => ?_) ha, PE.imp (pe_callB cr_lenM hg hm (by decide +kernel) (pa_cons (pe_callTy (cr_setM hc hu) hg2 hm2 (by decide +kernel) ha.pa (by decide) (by decide) he2 hpl2) pa_nil he) (by decide) (by decide) he hpl) fun σ H Q ⟨ρ, S, re, rs, ex, h⟩ => ?_⟩
  · unfold oLenSet at q ⊢
    split at q
    · split at q
      · exact ⟨q.1, fun ys hy => h _ _ (q.2 ys hy)⟩
      · exact q
    · exact q
  · refine ⟨ρ, S, re, rs, ex, ha.mono _ _ _ _ (fun ps S1 h vs H1 rv rs1 ex1 => ?_) h⟩
    unfold oLenSet at h
    split at h
    · obtain ⟨v1, rfl, r1⟩ := rv.one
      split at h
      · rename_i xs e0
        obtain ⟨⟨⟨m, hk⟩, D, hD, hd⟩, h⟩ := h
        obtain ⟨t, vs, e1, hq, r⟩ := sqP_rep rs1 r1 e0
        have zf := zip_fst r
        have hkk : ∀ x ∈ xs, isK x = true := fun x hx => (hk x hx).isK
        refine ⟨m, t, vs.zip (xs.map toK), D.map toK, by rw [e1], by rw [zf]; exact hq, kvs_of r hk, by rw [List.length_map]; exact lim_of hD, dset (K := X.K) hd, fun b L hn l1 l2 l3 => ?_⟩
        have kL : KVs m X.K (upd H1 b (SetMO m X.w b L)) L := fun z hz => kvs_upd rs1 hn r hk z (l1 z hz)
        refine ⟨m, b, L, rfl, upd_same, kL, ?_⟩
        obtain ⟨ys, sy, ek, ry⟩ := set_row r hkk (L := L) l1 l2 l3
        have hl : L.length = ys.length := by rw [← List.length_map (·.2), ek, List.length_map]
        rw [hl]
        exact h ys sy (.int ys.length) _ rfl (rs1.newT hn) (ex1.trans (Ext.newT (K := X.K) hn))
      · exact h.elim
    · exact h.elim
end
end PL

/-! Rows that rise, against sorted(set(row)); shifts and zones: plain. -/
namespace PL
open PySem PySem.Spec PyProof.Rows L2
def strictI (is : List Int) : Bool := (is.zip is.tail).all fun p => decide (p.1 < p.2)
def strictS (ss : List Str) : Bool := (ss.zip ss.tail).all fun p => strLt p.1 p.2
theorem strictI_pw (is : List Int) : strictI is = true ↔ is.Pairwise (· < ·) := by
  have e := adj_pw (r := fun a b : Int => decide (a < b)) (fun a b c h h' => by rw [decide_eq_true_eq] at *; omega) is
  unfold strictI
  rw [e]
  exact ⟨fun z => z.imp fun {a b} w => of_decide_eq_true w, fun z => z.imp fun {a b} w => decide_eq_true w⟩
theorem strictS_pw (ss : List Str) : strictS ss = true ↔ ss.Pairwise fun a b => strLt a b = true := adj_pw (r := strLt) (fun a b c h h' => strLt_trans h h') ss
theorem risP_int (is : List Int) : risP (is.map .int) = strictI is := by
  unfold risP strictI
  rw [← List.map_tail, List.zip_map, List.all_map]
  rfl
theorem risP_strS (ss : List Str) : risP (ss.map .str) = strictS ss := risP_str ss
theorem sortI_perm (js : List Int) : (sortI js).Perm js := List.mergeSort_perm _ _
theorem sortS_perm (js : List Str) : (sortS js).Perm js := List.mergeSort_perm _ _
theorem nodup_perm {α : Type} {a b : List α} (ha : a.Nodup) (hb : b.Nodup) (h : ∀ x, x ∈ a ↔ x ∈ b) : a.Perm b := (List.perm_ext_iff_of_nodup ha hb).mpr h
theorem eq_sortI {is js : List Int} (nd : js.Nodup) (hm : ∀ x, x ∈ js ↔ x ∈ is) : decide (is = sortI js) = strictI is := by
  rw [Bool.eq_iff_iff, decide_eq_true_eq, strictI_pw]
  constructor
  · intro e
    rw [e]
    have n2 : (sortI js).Nodup := (sortI_perm js).nodup_iff.mpr nd
    exact ((sortI_pw js).and n2).imp fun {a b} ⟨z, y⟩ => by omega
  · intro h
    have n1 : is.Nodup := h.imp fun {a b} z => by omega
    have pm : (sortI js).Perm is := (sortI_perm js).trans (nodup_perm nd n1 hm)
    refine (pm.eq_of_pairwise (le := fun a b : Int => a ≤ b) (fun a b _ _ h1 h2 => by omega) (sortI_pw js) (h.imp fun {a b} z => by omega)).symm
theorem eq_sortS {is js : List Str} (nd : js.Nodup) (hm : ∀ x, x ∈ js ↔ x ∈ is) : decide (is = sortS js) = strictS is := by
  rw [Bool.eq_iff_iff, decide_eq_true_eq, strictS_pw]
  constructor
  · intro e
    rw [e]
    have n2 : (sortS js).Nodup := (sortS_perm js).nodup_iff.mpr nd
    exact ((sortS_pw js).and n2).imp fun {a b} ⟨z, y⟩ => leS_lt z y
  · intro h
    have n1 : is.Nodup := h.imp fun {a b} z => by
      rintro rfl
      rw [strLt_irr] at z
      cases z
    have pm : (sortS js).Perm is := (sortS_perm js).trans (nodup_perm nd n1 hm)
    refine (pm.eq_of_pairwise (le := fun a b : Str => leS a b = true) (fun a b _ _ h1 h2 => ?_) (sortS_pw js) (h.imp fun {a b} z => lt_leS z)).symm
    unfold leS at h1 h2
    rw [decide_eq_true_eq] at h1 h2
    exact str_ext (List.le_antisymm h1 h2)
theorem setOf_map {α : Type} {f : α → Pv} (inj : ∀ a b, f a = f b → a = b) {is : List α} {ys : List Pv} (h : setOf (is.map f) ys) : ∃ js : List α, ys = js.map f ∧ js.Nodup ∧ ∀ x, x ∈ js ↔ x ∈ is := by
  obtain ⟨nd, hm⟩ := h
  have key : ∀ ys : List Pv, (∀ y ∈ ys, y ∈ is.map f) → ∃ js : List α, ys = js.map f := by
    intro ys
    induction ys with
    | nil => intro _; exact ⟨[], rfl⟩
    | cons y ys ih =>
      intro h
      obtain ⟨x, _, e⟩ := List.mem_map.mp (h y List.mem_cons_self)
      obtain ⟨js, e2⟩ := ih fun z hz => h z (List.mem_cons_of_mem _ hz)
      exact ⟨x :: js, by rw [e2, ← e]; rfl⟩
  obtain ⟨js, rfl⟩ := key ys fun y hy => (hm y).mp hy
  refine ⟨js, rfl, List.Pairwise.of_map f (fun _ _ hne e => hne (congrArg f e)) nd, fun x => ?_⟩
  have h1 := hm (f x)
  have mm : ∀ l : List α, f x ∈ l.map f ↔ x ∈ l := fun l => by
    rw [List.mem_map]
    exact ⟨fun ⟨z, hz, e⟩ => inj _ _ e ▸ hz, fun h => ⟨x, h, rfl⟩⟩
  rw [mm, mm] at h1
  exact h1
theorem setOk_int {is : List Int} (h : is.length < 75) : setOk (is.map .int) := ⟨⟨false, fun x hx => by obtain ⟨i, _, rfl⟩ := List.mem_map.mp hx; exact rfl⟩, is.map .int, by rw [List.length_map]; exact h, fun x hx => hx⟩
theorem setOk_str {ss : List Str} (h : ss.length < 75) : setOk (ss.map .str) := ⟨⟨false, fun x hx => by obtain ⟨i, _, rfl⟩ := List.mem_map.mp hx; exact rfl⟩, ss.map .str, by rw [List.length_map]; exact h, fun x hx => hx⟩
/-! ### pairs -/
def tup2 (t : Pv × Pv) : Pv := .tup [t.1, t.2]
theorem tup2_of : ∀ {ms : List Pv}, ms.all (tupN 2) = true → ∃ ts : List (Pv × Pv), ms = ts.map tup2
  | [], _ => ⟨[], rfl⟩
  | m :: ms, h => by
    have h : tupN 2 m = true ∧ ms.all (tupN 2) = true := by simpa using h
    obtain ⟨ts, rfl⟩ := tup2_of h.2
    cases m with
    | tup ys =>
      match ys, h.1 with
      | [a, b], _ => exact ⟨(a, b) :: ts, rfl⟩
      | [], h => simp [tupN] at h
      | [_], h => simp [tupN] at h
      | _ :: _ :: _ :: _, h => simp [tupN] at h
    | _ => simp [tupN] at h
def inQ (l m : Int) : Pv → Bool
  | .int i => decide (l ≤ i) && decide (i ≤ m)
  | _ => false
def minQ (x : Pv) : Bool := inQ (-900) 900 x
/-- a shift -/
def sQ (t : Pv × Pv) : Bool := isIntP t.1 && minQ t.2
def intOf : Pv → Int
  | .int i => i
  | _ => 0
def strOf : Pv → Str
  | .str x => x
  | _ => ""
theorem all_int {α : Type} {f : α → Pv} : ∀ {ts : List α}, (∀ t ∈ ts, isIntP (f t) = true) → ts.map f = (ts.map fun t => intOf (f t)).map Pv.int
  | [], _ => rfl
  | t :: ts, h => by
    have h1 := h t List.mem_cons_self
    rw [List.map_cons, List.map_cons, List.map_cons, ← all_int fun x hx => h x (List.mem_cons_of_mem _ hx)]
    cases e : f t with
    | int i => rfl
    | _ => rw [e] at h1; cases h1
theorem all_str {α : Type} {f : α → Pv} : ∀ {ts : List α}, (∀ t ∈ ts, wordP (f t) = true) → ts.map f = (ts.map fun t => strOf (f t)).map Pv.str
  | [], _ => rfl
  | t :: ts, h => by
    have h1 := h t List.mem_cons_self
    rw [List.map_cons, List.map_cons, List.map_cons, ← all_str fun x hx => h x (List.mem_cons_of_mem _ hx)]
    cases e : f t with
    | str i => rfl
    | _ => rw [e] at h1; cases h1
def headZ (is : List Int) : Bool := match is with
  | i :: _ => decide (i = 0)
  | [] => false
def shiftsT (ts : List (Pv × Pv)) : Bool := ts.all sQ && (headZ (ts.map fun t => intOf t.1) && strictI (ts.map fun t => intOf t.1))
def pairsOf : List Pv → List (Pv × Pv)
  | [] => []
  | .tup [a, b] :: xs => (a, b) :: pairsOf xs
  | _ :: xs => pairsOf xs
theorem pairsOf_map : ∀ ts : List (Pv × Pv), pairsOf (ts.map tup2) = ts
  | [] => rfl
  | t :: ts => by
    show (t.1, t.2) :: pairsOf (ts.map tup2) = _
    rw [pairsOf_map ts]
def shiftsP : Pv → Bool
  | .tup xs => rowP 1 12 2 (.tup xs) && shiftsT (pairsOf xs)
  | _ => false
def zonesT (ts : List (Pv × Pv)) : Bool := (ts.all fun t => wordP t.1) && (strictS (ts.map fun t => strOf t.1) && ts.all fun t => shiftsP t.2)
def zonesP : Pv → Bool
  | .tup xs => rowP 0 8 2 (.tup xs) && zonesT (pairsOf xs)
  | _ => false
/-- what begins at nought and rises has nothing below nought -/
theorem rise_nn {is : List Int} (h : headZ is = true) (h2 : strictI is = true) : ∀ i ∈ is, 0 ≤ i := by
  cases is with
  | nil => intro i hi; cases hi
  | cons j is =>
    have h : j = 0 := of_decide_eq_true h
    have pw := List.pairwise_cons.mp ((strictI_pw _).mp h2)
    intro i hi
    rcases List.mem_cons.mp hi with rfl | hi
    · omega
    · have := pw.1 i hi
      omega
theorem shiftsT_day (ts : List (Pv × Pv)) : shiftsT ts = ((ts.all fun t => dayP t.1 && minQ t.2) && (headZ (ts.map fun t => intOf t.1) && strictI (ts.map fun t => intOf t.1))) := by
  unfold shiftsT
  cases hr : headZ (ts.map fun t => intOf t.1) && strictI (ts.map fun t => intOf t.1) with
  | false => rw [Bool.and_false, Bool.and_false]
  | true =>
    rw [Bool.and_true, Bool.and_true]
    rw [Bool.and_eq_true] at hr
    have nn := rise_nn hr.1 hr.2
    rw [Bool.eq_iff_iff, List.all_eq_true, List.all_eq_true]
    refine ⟨fun h t ht => ?_, fun h t ht => ?_⟩
    · have := h t ht
      unfold sQ at this
      rw [Bool.and_eq_true] at this ⊢
      refine ⟨?_, this.2⟩
      have n1 := nn (intOf t.1) (List.mem_map.mpr ⟨t, ht, rfl⟩)
      cases e : t.1 with
      | int i => rw [e] at n1; exact decide_eq_true n1
      | _ => rw [e] at this; cases this.1
    · have := h t ht
      unfold sQ
      rw [Bool.and_eq_true] at this ⊢
      refine ⟨?_, this.2⟩
      cases e : t.1 with
      | int i => rfl
      | _ => rw [e] at this; cases this.1
/-! ### rows of pairs -/
theorem row2 {a b : Nat} {x : Pv} (h : smP x = true) (e : rowP a b 2 x = true) : ∃ ts : List (Pv × Pv), x = .tup (ts.map tup2) ∧ a ≤ ts.length ∧ ts.length ≤ b ∧ ts.length ≤ 1000 ∧ ∀ t ∈ ts, smP t.1 = true ∧ smP t.2 = true := by
  cases x with
  | tup ms =>
    obtain ⟨hl, hs⟩ := smP_tup h
    have e : (decide (a ≤ ms.length) && decide (ms.length ≤ b) && ms.all (tupN 2)) = true := e
    rw [Bool.and_eq_true, Bool.and_eq_true] at e
    have h1 := of_decide_eq_true e.1.1
    have h2 := of_decide_eq_true e.1.2
    obtain ⟨ts, rfl⟩ := tup2_of e.2
    rw [List.length_map] at h1 h2 hl
    refine ⟨ts, rfl, h1, h2, hl, fun t ht => ?_⟩
    have := smPs_mem hs (tup2 t) (List.mem_map.mpr ⟨t, ht, rfl⟩)
    have := (smP_tup this).2
    simpa [smPs] using this
  | _ => cases e
theorem shiftsP_no {x : Pv} (e : rowP 1 12 2 x = false) : shiftsP x = false := by
  cases x with
  | tup ms => show (rowP 1 12 2 (.tup ms) && _) = false; rw [e]; rfl
  | _ => rfl
theorem shiftsP_map {ts : List (Pv × Pv)} (e : rowP 1 12 2 (.tup (ts.map tup2)) = true) : shiftsP (.tup (ts.map tup2)) = shiftsT ts := by
  show (rowP 1 12 2 (.tup (ts.map tup2)) && shiftsT (pairsOf (ts.map tup2))) = _
  rw [e, pairsOf_map]; rfl
theorem zonesP_no {x : Pv} (e : rowP 0 8 2 x = false) : zonesP x = false := by
  cases x with
  | tup ms => show (rowP 0 8 2 (.tup ms) && _) = false; rw [e]; rfl
  | _ => rfl
theorem zonesP_map {ts : List (Pv × Pv)} (e : rowP 0 8 2 (.tup (ts.map tup2)) = true) : zonesP (.tup (ts.map tup2)) = zonesT ts := by
  show (rowP 0 8 2 (.tup (ts.map tup2)) && zonesT (pairsOf (ts.map tup2))) = _
  rw [e, pairsOf_map]; rfl
theorem int_int {p : Pv} (h : isIntP p = true) : p = .int (intOf p) := by
  cases p with
  | int i => rfl
  | _ => cases h
theorem day_int {p : Pv} (h : dayP p = true) : p = .int (intOf p) := by
  cases p with
  | int i => rfl
  | _ => cases h
theorem word_str {p : Pv} (h : wordP p = true) : p = .str (strOf p) := by
  cases p with
  | str i => rfl
  | _ => cases h
theorem word_asc {p : Pv} (h : wordP p = true) : asc (strOf p) = true := by
  cases p with
  | str w =>
    have h : wordS w = true := h
    unfold wordS at h
    simp only [Bool.and_eq_true, decide_eq_true_eq] at h
    refine List.all_eq_true.mpr fun c hc => ?_
    have := List.all_eq_true.mp h.2 c hc
    unfold smallC at this
    simp only [Bool.and_eq_true, decide_eq_true_eq] at this
    exact decide_eq_true (by omega)
  | _ => cases h
/-- a list of ones for all that fail: empty just where none fails -/
theorem ones_empty {α : Type} (xs : List α) (c : α → Bool) : (toDs ((xs.filter fun t => !c t).map fun _ => Pv.int 1)).isEmpty = xs.all c := by
  rw [toDs_map, List.isEmpty_map, List.isEmpty_map]
  induction xs with
  | nil => rfl
  | cons x xs ih =>
    rw [List.all_cons, List.filter_cons]
    cases c x with
    | true => simpa using ih
    | false => rfl
theorem okD_ones {α : Type} (xs : List α) : okD (.lst (xs.map fun _ => Pv.int 1)) = true := by
  have := okD_lint (xs.map fun _ => (1 : Int))
  rw [List.map_map] at this
  exact this
/-- a test that is gone by: what comes behind it is looked at once -/
theorem if_rest {c : PFB} {A R : PFS} {D : Ends'} {ρ : Env'} {S : Sto} (I : Sto → Prop) (hR : ∀ S', I S' → R D ρ S') (h : ∀ kk : Bool → Sto → Prop, (∀ S', A { D with nx := R D } ρ S' → kk true S') → (∀ S', I S' → kk false S') → c ρ S kk) : gSeq (gIf c A gNext) R D ρ S := h _ (fun _ a => a) fun S' i => hR S' i
end PL

/-! Two clauses in a list; str(i); dicts: {}, d[k] = v, d == {}, sorted(d), dict(pairs), d.get(k, x). -/
namespace PL
open PySem PySem.Spec PyProof.Rows L2
/-! ### two clauses -/
def lc2W (gd : Sto → Prop) (t : Tg) (tt : PFB) (fi1 : PFI) (t1 : Tg) (tt1 : PFB) (te : PF) (ρ : Env') (vs1 : List Nat) (D : Addr) (Q : List Pv → Sto → Prop) : List Pv → List Pv → Sto → Prop
  | [], acc, S => gd (put S D (.lst acc)) ∧ Q acc S
  | x :: xs, acc, S => gd (put S D (.lst acc)) ∧ match bindT (put S D (.lst acc)) t x ρ with
    | some ρ2 => tt ρ2 (put S D (.lst acc)) fun c S2 =>
        cnd c (fi1 ρ2 S2 fun its1 gd1 S3 => S3 D = some (.lst acc) ∧ lcW gd1 t1 tt1 te (wipeP ρ2 vs1) D (fun acc' S' => lc2W gd t tt fi1 t1 tt1 te ρ vs1 D Q xs acc' S') its1 acc (del S3 D))
          (S2 D = some (.lst acc) ∧ lc2W gd t tt fi1 t1 tt1 te ρ vs1 D Q xs acc (del S2 D))
    | none => False
def fLc2 (fi : PFI) (t : Tg) (tt : PFB) (fi1 : PFI) (t1 : Tg) (tt1 : PFB) (te : PF) (vs vs1 : List Nat) : PF := fun ρ S Q => fi ρ S fun its gd S1 => ∀ D, S1 D = none → lc2W gd t tt fi1 t1 tt1 te (wipeP ρ vs) vs1 D (fun acc S' => Q (.lst acc) S') its [] S1
theorem lc2W_mono {gd : Sto → Prop} {t : Tg} {tt : PFB} {fi1 : PFI} {t1 : Tg} {tt1 : PFB} {te : PF} {ρ : Env'} {vs1 : List Nat} {D : Addr} (h1 : ∀ ρ S Q Q', (∀ p S', Q p S' → Q' p S') → tt ρ S Q → tt ρ S Q') (hi : ∀ ρ S Q Q', (∀ p g S', Q p g S' → Q' p g S') → fi1 ρ S Q → fi1 ρ S Q') (h3 : ∀ ρ S Q Q', (∀ p S', Q p S' → Q' p S') → tt1 ρ S Q → tt1 ρ S Q') (h2 : ∀ ρ S Q Q', (∀ p S', Q p S' → Q' p S') → te ρ S Q → te ρ S Q')
    {Q Q' : List Pv → Sto → Prop} (i : ∀ p S', Q p S' → Q' p S') : ∀ (its acc : List Pv) (S : Sto), lc2W gd t tt fi1 t1 tt1 te ρ vs1 D Q its acc S → lc2W gd t tt fi1 t1 tt1 te ρ vs1 D Q' its acc S
  | [], acc, S, q => ⟨q.1, i _ _ q.2⟩
  | x :: xs, acc, S, q => by
    refine ⟨q.1, ?_⟩
    have q2 := q.2
    split at q2
    · refine h1 _ _ _ _ (fun c S2 q => ?_) q2
      cases c with
      | true => exact hi _ _ _ _ (fun its1 gd1 S3 q => ⟨q.1, lcW_mono h3 h2 (fun acc' S' q => lc2W_mono h1 hi h3 h2 i xs acc' S' q) its1 acc _ q.2⟩) q
      | false => exact ⟨q.1, lc2W_mono h1 hi h3 h2 i xs _ _ q.2⟩
    · exact q2.elim
section
variable {X : Cx} {S0 : Sto} {H0 : Hp} {a b : Expr} {fa fb : PF} {pos : Pos}
/-- the inner walk -/
theorem lc_loop {t : Tg} {tt : PFB} {te : PF} {vs : List Nat} (hv : ∀ i ∈ slotsT t, i ∈ vs) (m1 : ∀ ρ S Q Q', (∀ p S', Q p S' → Q' p S') → tt ρ S Q → tt ρ S Q') (m2 : ∀ ρ S Q Q', (∀ p S', Q p S' → Q' p S') → te ρ S Q → te ρ S Q')
    {σ : L2.St} {ρ : Env'} {S1 : Sto} {H1 : Hp} {J : It} {its acc0 : List Pv} {gd : Sto → Prop} {D : Addr} {F : List Pv → Sto → Prop} {Nx : Hp → Prop} (w : Wk X.K S1 H1 J its gd) (re : RepE X.K H1 S1 σ ρ) (rs1 : RepS X.K H1 S1) (ex : Ext S0 H0 S1 H1) (hD : S1 D = some (.lst acc0)) (q : lcW gd t tt te (wipeP ρ vs) D F its acc0 (del S1 D))
    (fin : ∀ acc S' H', F acc S' → S' D = none → RepS X.K H' (put S' D (.lst acc)) → Ext S1 H1 (put S' D (.lst acc)) H' → Nx H') :
    ∃ W1 : Nat → Nat → Hp → Prop, (∃ m, W1 0 m H1) ∧ ∀ j k H, W1 j k H →
      (J.stop j H ∧ Nx H) ∨ (J.go j H ∧ ∃ Nx1 : Hp → Prop, (∀ H', Nx1 H' → ∃ k', k' < k ∧ W1 (j + 1) k' H') ∧ ∀ x H', J.yld j H x H' → tgR X.K t x (L2.wipe σ vs) H' fun σ3 H5 => L2.wipe σ3 vs = L2.wipe σ vs ∧ liftB X.K S0 H0 tt σ3 H5 fun b H6 =>
        if b = true then lift X.K S0 H0 te σ3 H6 fun y H7 => ∃ acc, H7 D = some (.lst acc) ∧ acc.length < sizeLine ∧ Nx1 (upd H7 D (.lst (acc ++ [y]))) else Nx1 H6) := by
  refine ⟨fun i m H2 => i + m = its.length ∧ ∃ acc S2, S2 D = none ∧ RepS X.K H2 (put S2 D (.lst acc)) ∧ Ext S1 H1 (put S2 D (.lst acc)) H2 ∧ lcW gd t tt te (wipeP ρ vs) D F (its.drop i) acc S2,
    ⟨its.length, by omega, acc0, del S1 D, by simp, by rw [put_del, put_self hD]; exact rs1, by rw [put_del, put_self hD]; exact Ext.refl _ _, by rw [List.drop_zero]; exact q⟩, fun i m H2 hW => ?_⟩
  obtain ⟨em, acc, S2, n2, rs2, ex2, q2⟩ := hW
  cases hd : its.drop i with
  | nil =>
    rw [hd] at q2
    have hil : its.length ≤ i := by
      have := congrArg List.length hd
      simp at this
      omega
    have e0 : i = its.length := by omega
    subst e0
    exact .inl ⟨w.stop _ H2 ex2 rs2 q2.1, fin acc S2 H2 q2.2 n2 rs2 ex2⟩
  | cons x xs =>
    rw [hd] at q2
    have hil : i < its.length := by
      have := congrArg List.length hd
      simp at this
      omega
    have hx : its[i]? = some x := by
      have := congrArg (fun l => l[0]?) hd
      simpa using this
    have hxs : its.drop (i + 1) = xs := by
      have := congrArg (List.drop 1) hd
      simpa [Nat.add_comm] using this
    obtain ⟨hgo, hy⟩ := w.go _ H2 i x ex2 rs2 q2.1 hx
    refine .inr ⟨hgo, fun H3 => ∃ acc S3, S3 D = none ∧ RepS X.K H3 (put S3 D (.lst acc)) ∧ Ext S1 H1 (put S3 D (.lst acc)) H3 ∧ lcW gd t tt te (wipeP ρ vs) D F xs acc S3, fun H3 ⟨acc', S3, a1, a2, a3, a4⟩ => ⟨m - 1, by omega, by omega, acc', S3, a1, a2, a3, by rw [hxs]; exact a4⟩, fun v H3 yl => ?_⟩
    obtain ⟨rv, rs3, ex3⟩ := hy v H3 yl
    have q3 := q2.2
    split at q3
    · rename_i ρ' eb
      have e13 := ex2.trans ex3
      have re3 : RepE X.K H3 (put S2 D (.lst acc)) (L2.wipe σ vs) (wipeP ρ vs) := (re.ext rs1 e13).wipe vs
      refine tg_run rs3 t x v (L2.wipe σ vs) (wipeP ρ vs) ρ' _ rv re3 eb fun σ4 re4 w4 => ⟨by rw [w4 vs hv]; exact wipe_wipe σ vs vs fun i h => h, ?_⟩
      have e03 := ex.trans e13
      refine ⟨ρ', _, re4, rs3, e03, m1 _ _ _ _ (fun c S5 q5 H5 rs5 ex5 => ?_) q3⟩
      have e15 := e13.trans ex5
      cases c with
      | true =>
        refine ⟨ρ', S5, re4.ext rs3 ex5, rs5, e03.trans ex5, m2 _ _ _ _ (fun y S6 q6 yv H6 ry rs6 ex6 => ?_) q5⟩
        obtain ⟨h1, h2, h3⟩ := q6
        obtain ⟨av, hav, ra⟩ := rs6 D _ h1
        refine ⟨av, hav, by rw [ra.len]; exact h2, acc ++ [y], del S6 D, by simp, ?_, ?_, h3⟩
        · rw [put_del]
          exact rs6.chg h1 (ra.app ⟨yv, [], rfl, ry, rfl⟩)
        · rw [put_del]
          exact (e15.trans ex6).trans (Ext.chg h1)
      | false =>
        obtain ⟨h1, h2⟩ := q5
        refine ⟨acc, del S5 D, by simp, ?_, ?_, h2⟩
        · rw [put_del, put_self h1]; exact rs5
        · rw [put_del, put_self h1]; exact e15
    · exact q3.elim
theorem lc2_sim {fi fi1 : PFI} {t t1 : Tg} {tt tt1 : PFB} {te : PF} {vs vs1 : List Nat} {tg iter : Expr} (hi : PIt X S0 H0 tg iter fi) (hv : ∀ i ∈ slotsT t, i ∈ vs) (hv1 : ∀ i ∈ slotsT t1, i ∈ vs1) (m1 : ∀ ρ S Q Q', (∀ p S', Q p S' → Q' p S') → tt ρ S Q → tt ρ S Q') (mi : ∀ ρ S Q Q', (∀ p g S', Q p g S' → Q' p g S') → fi1 ρ S Q → fi1 ρ S Q')
    (m3 : ∀ ρ S Q Q', (∀ p S', Q p S' → Q' p S') → tt1 ρ S Q → tt1 ρ S Q') (m2 : ∀ ρ S Q Q', (∀ p S', Q p S' → Q' p S') → te ρ S Q → te ρ S Q')
    {σ : L2.St} {H : Hp} {Q : VK} {ρ : Env'} {S : Sto} {F : Addr → List Pv → Sto → Prop} (re : RepE X.K H S σ ρ) (rs : RepS X.K H S) (ex : Ext S0 H0 S H) (q : fi ρ S fun its gd S1 => ∀ D, S1 D = none → lc2W gd t tt fi1 t1 tt1 te (wipeP ρ vs) vs1 D (F D) its [] S1)
    (fin : ∀ D acc S' H', F D acc S' → S' D = none → RepS X.K H' (put S' D (.lst acc)) → Ext S H (put S' D (.lst acc)) H' → Q (.ref D) H') :
    tLc2 (liftI X.K S0 H0 fi) (tgR X.K t) (liftB X.K S0 H0 tt) (liftI X.K S0 H0 fi1) (tgR X.K t1) (liftB X.K S0 H0 tt1) (lift X.K S0 H0 te) vs vs1 σ H Q := by
  refine ⟨ρ, S, re, rs, ex, hi.mono _ _ _ _ (fun its gd S1 q J H1 w rs1 ex1 => ?_) q⟩
  intro D hD
  have q := q D (rs1.fr hD)
  refine ⟨fun i m H2 => i + m = its.length ∧ ∃ acc S2, S2 D = none ∧ RepS X.K H2 (put S2 D (.lst acc)) ∧ Ext S1 H1 (put S2 D (.lst acc)) H2 ∧ lc2W gd t tt fi1 t1 tt1 te (wipeP ρ vs) vs1 D (F D) (its.drop i) acc S2,
    ⟨its.length, by omega, [], S1, rs1.fr hD, rs1.newL hD rfl, Ext.newS hD, by rw [List.drop_zero]; exact q⟩, fun i m H2 hW => ?_⟩
  obtain ⟨em, acc, S2, n2, rs2, ex2, q2⟩ := hW
  cases hd : its.drop i with
  | nil =>
    rw [hd] at q2
    have hil : its.length ≤ i := by
      have := congrArg List.length hd
      simp at this
      omega
    have e0 : i = its.length := by omega
    subst e0
    exact .inl ⟨w.stop _ H2 ex2 rs2 q2.1, fin D acc S2 H2 q2.2 n2 rs2 (ex1.trans ex2)⟩
  | cons x xs =>
    rw [hd] at q2
    have hil : i < its.length := by
      have := congrArg List.length hd
      simp at this
      omega
    have hx : its[i]? = some x := by
      have := congrArg (fun l => l[0]?) hd
      simpa using this
    have hxs : its.drop (i + 1) = xs := by
      have := congrArg (List.drop 1) hd
      simpa [Nat.add_comm] using this
    obtain ⟨hgo, hy⟩ := w.go _ H2 i x ex2 rs2 q2.1 hx
    refine .inr ⟨hgo, fun H3 => ∃ acc S3, S3 D = none ∧ RepS X.K H3 (put S3 D (.lst acc)) ∧ Ext S1 H1 (put S3 D (.lst acc)) H3 ∧ lc2W gd t tt fi1 t1 tt1 te (wipeP ρ vs) vs1 D (F D) xs acc S3, fun H3 ⟨acc', S3, a1, a2, a3, a4⟩ => ⟨m - 1, by omega, by omega, acc', S3, a1, a2, a3, by rw [hxs]; exact a4⟩, fun v H3 yl => ?_⟩
    obtain ⟨rv, rs3, ex3⟩ := hy v H3 yl
    have q3 := q2.2
    split at q3
    · rename_i ρ' eb
      have e13 := ex2.trans ex3
      have re3 : RepE X.K H3 (put S2 D (.lst acc)) (L2.wipe σ vs) (wipeP ρ vs) := (re.ext rs (ex1.trans e13)).wipe vs
      refine tg_run rs3 t x v (L2.wipe σ vs) (wipeP ρ vs) ρ' _ rv re3 eb fun σ4 re4 w4 => ⟨by rw [w4 vs hv]; exact wipe_wipe σ vs vs fun i h => h, ?_⟩
      have e03 := (ex.trans ex1).trans e13
      refine ⟨ρ', _, re4, rs3, e03, m1 _ _ _ _ (fun c S5 q5 H5 rs5 ex5 => ?_) q3⟩
      have e15 := e13.trans ex5
      cases c with
      | true =>
        refine ⟨ρ', S5, re4.ext rs3 ex5, rs5, e03.trans ex5, mi _ _ _ _ (fun its1 gd1 S6 q6 J1 H6 w1 rs6 ex6 => ?_) q5⟩
        obtain ⟨h1, h3⟩ := q6
        have e16 := e15.trans ex6
        exact lc_loop hv1 m3 m2 w1 ((re4.ext rs3 ex5).ext rs5 ex6) rs6 ((e03.trans ex5).trans ex6) h1 h3 fun acc' S' H' f n' rs' ex' => ⟨acc', S', n', rs', e16.trans ex', f⟩
      | false =>
        obtain ⟨h1, h2⟩ := q5
        refine ⟨acc, del S5 D, by simp, ?_, ?_, h2⟩
        · rw [put_del, put_self h1]; exact rs5
        · rw [put_del, put_self h1]; exact e15
    · exact q3.elim
variable {elt tg iter tg1 iter1 : Expr} {ifs ifs1 : List Expr} {scope : Scope} {fi fi1 : PFI} {t t1 : Tg} {tt tt1 : PFB} {te : PF}
theorem pv_lc2 (own : List (Str × Nat)) (vs1 : List Nat) (hc : X.calm = true) (hN : X.N.Nodup) (hi : PIt X S0 H0 tg iter fi) (ok : BlkOk X.N X.env.scope scope own) (hg : Blk X scope fun Y => PG Y tg (tgR X.K t)) (ht : Blk X scope fun Y => PBs Y S0 H0 ifs tt)
    (hi1 : Blk X scope fun Y => PIt Y S0 H0 tg1 iter1 fi1) (hg1 : Blk X scope fun Y => PG Y tg1 (tgR X.K t1)) (ht1 : Blk X scope fun Y => PBs Y S0 H0 ifs1 tt1) (he : Blk X scope fun Y => PV Y S0 H0 elt te)
    (hv : ∀ i ∈ slotsT t, i ∈ own.map (·.2) := by decide) (hv1 : ∀ i ∈ slotsT t1, i ∈ vs1 := by decide) (hvv : ∀ i ∈ vs1, i ∈ own.map (·.2) := by decide) (hs : ∀ x, foldedSetIterable iter X.env x = pure x := by intro _; rfl) (hs1 : ∀ env x, foldedSetIterable iter1 env x = pure x := by intro _ _; rfl) :
    PV X S0 H0 (.ListComp elt [⟨tg, iter, ifs, 0⟩, ⟨tg1, iter1, ifs1, 0⟩] scope pos) (fLc2 fi t tt fi1 t1 tt1 te (own.map (·.2)) vs1) := by
  have m1 := (ht X.s_0 X.H_0 0 [] []).mono
  have m3 := (ht1 X.s_0 X.H_0 0 [] []).mono
  have m2 := (he X.s_0 X.H_0 0 [] []).mono
  have mi := (hi1 X.s_0 X.H_0 0 [] []).mono
  refine ⟨fun ρ S Q Q' i q => hi.mono _ _ _ _ (fun its gd S1 q D hD => lc2W_mono m1 mi m3 m2 (fun _ _ q => i _ _ q) its [] S1 (q D hD)) q, PE.imp (pe_lc2 (te := lift X.K S0 H0 te) (tt := liftB X.K S0 H0 tt) (tt1 := liftB X.K S0 H0 tt1) (wi1 := liftI X.K S0 H0 fi1) hc hN hi.pi ok hvv hg (fun s H C cl fp => (ht s H C cl fp).pts) (fun s H C cl fp => (hi1 s H C cl fp).pi) hg1 (fun s H C cl fp => (ht1 s H C cl fp).pts) (fun s H C cl fp => (he s H C cl fp).pe) hs hs1) fun σ H Q ⟨ρ, S, re, rs, ex, q⟩ => ?_⟩
  exact lc2_sim hi hv hv1 m1 mi m3 m2 re rs ex q fun D acc S' H' g hn rs' e' => lc_fin (G := fun p S' => ∀ v H', RepV X.K H' S' p v → RepS X.K H' S' → Ext S H S' H' → Q v H') g hn rs' e' fun p S' h => h
end
end PL

namespace PL
open PySem PySem.Spec PyProof.Rows L2
section
variable {X : Cx} {S0 : Sto} {H0 : Hp} {a b e : Expr} {fa fb fe : PF} {pos p : Pos} {fs : PFs}
/-! ### str(i) -/
def oStrI : On := fun ps S Q => match ps with
  | [.int i] => i.natAbs.log2 < 1920 ∧ Q (.str (toString i)) S
  | _ => False
theorem pv_strI (hm : X.mg "str" = none) (ha : PVs X S0 H0 [a] fs) (hg : Gl X "str" := by rfl) (he : starEach (a :: []) X.env = (false, eval a X.env) :: starEach [] X.env := by rfl) (hpl : (backTo pos (starEach [] X.env)).any (·.1) = false := by rfl) : PV X S0 H0 (.Call (.Name "str" p) [a] [] pos) (fN oStrI fs) := by
  refine pv_callTy call_str_int ⟨fun x S Q Q' h q => ?_, fun x S Qp v H Q rx rs h k => ?_⟩ hg hm (by decide +kernel) ha (by decide) (by decide) he hpl
  · unfold oStrI at q ⊢
    split at q
    · exact ⟨q.1, h _ _ q.2⟩
    · exact q
  · unfold oStrI at h
    split at h
    · rename_i i
      obtain ⟨v1, rfl, r1⟩ := rx.one
      have e1 : v1 = .int i := r1
      exact ⟨i, by rw [e1], h.1, k _ S _ H h.2 rfl rs (Ext.refl S H)⟩
    · exact h.elim
/-! ### dicts -/
/-- a key -/
def kyP : Pv → Option Key
  | .int i => some (.inl i)
  | .str x => some (.inr x)
  | _ => none
theorem kyP_rep {K : PySem.W.Frag} {H : Hp} {S : Sto} {x : Pv} {k : Key} {v : V} (h : kyP x = some k) (r : RepV K H S x v) : v = kV k := by
  cases x with
  | int i => simp only [kyP, Option.some.injEq] at h; subst h; exact r
  | str i => simp only [kyP, Option.some.injEq] at h; subst h; exact r
  | _ => simp [kyP] at h
/-- what a dict holds -/
def dcP (S : Sto) : Pv → Option (List Pv × List Pv)
  | .dct ks xs => some (ks, xs)
  | .ref a => match S a with
    | some (.dct ks xs) => some (ks, xs)
    | _ => none
  | _ => none
theorem dcP_rep {K : PySem.W.Frag} {H : Hp} {S : Sto} (rs : RepS K H S) {x : Pv} {v : V} {ks xs : List Pv} (h : dcP S x = some (ks, xs)) (r : RepV K H S x v) : ∃ a kvs, v = .ref a ∧ Rd H a (.dK kvs) ∧ RepVs K H S ks (kvs.map fun kv => kV kv.1) ∧ RepVs K H S xs (kvs.map (·.2)) := by
  cases x with
  | dct k2 x2 =>
    simp only [dcP, Option.some.injEq, Prod.mk.injEq] at h
    obtain ⟨rfl, rfl⟩ := h
    obtain ⟨a, kvs, e1, h, hs, r1, r2⟩ := r
    exact ⟨a, kvs, e1, h, r1, r2⟩
  | ref a =>
    have e1 : v = .ref a := r
    simp only [dcP] at h
    split at h
    · rename_i k2 x2 e2
      simp only [Option.some.injEq, Prod.mk.injEq] at h
      obtain ⟨rfl, rfl⟩ := h
      obtain ⟨kvs, e3, r1, r2⟩ := rs a _ e2
      exact ⟨a, kvs, e1, .inl e3, r1, r2⟩
    · cases h
  | _ => simp [dcP] at h
/-- {} that is to be changed -/
def fDictT : PF := fun _ S Q => ∀ a, S a = none → Q (.ref a) (put S a (.dct [] []))
theorem pv_dictT : PV X S0 H0 (.Dict [] [] pos) fDictT := by
  refine ⟨fun _ _ _ _ h q a ha => h _ _ (q a ha), PE.imp pe_dnewK fun σ H Q ⟨ρ, S, re, rs, ex, q⟩ d nd => ?_⟩
  refine q d (rs.fr nd) _ _ rfl (fun x m hx => ?_) ⟨fun x o hx hs => by rw [upd_ne (ne_of_none hx nd)]; exact hx, fun x hx => ?_⟩
  · by_cases z : x = d
    · subst z
      rw [put_same] at hx; cases hx
      exact ⟨[], upd_same, rfl, rfl⟩
    · rw [put_ne z] at hx
      have q0 := rs x m hx
      have ee : Ext S H (put S d (.dct [] [])) (upd H d (.dK [])) := ⟨fun x o hx hs => by rw [upd_ne (ne_of_none hx nd)]; exact hx, fun x hx => by
        by_cases z : x = d
        · subst z; exact .inr nd
        · rw [put_ne z] at hx; exact .inl hx⟩
      cases m with
      | lst ys => obtain ⟨us, e1, r⟩ := q0; exact ⟨us, by rw [upd_ne z]; exact e1, RepVs.ext rs ee _ _ r⟩
      | dct ks ys => obtain ⟨us, e1, r, r'⟩ := q0; exact ⟨us, by rw [upd_ne z]; exact e1, RepVs.ext rs ee _ _ r, RepVs.ext rs ee _ _ r'⟩
      | tab n => exact tab_ext rs ee q0 (by rw [upd_ne z])
      | exc C => obtain ⟨oe, e1, r⟩ := q0; exact ⟨oe, by rw [upd_ne z]; exact e1, r⟩
      | lck o kvs => exact (upd_ne z).trans q0
  · by_cases z : x = d
    · subst z; exact .inr nd
    · rw [put_ne z] at hx; exact .inl hx
/-- d[k] = v, a new key -/
def gPutK (fv fd fk : PF) : PFS := fun D ρ S => fv ρ S fun v S1 => fd ρ S1 fun x S2 => fk ρ S2 fun k S3 => match x with
  | .ref a => (match S3 a with
    | some (.dct ks xs) => (kyP k).isSome = true ∧ (∀ z ∈ ks, (kyP z).isSome = true) ∧ k ∉ ks ∧ ks.length < sizeLine ∧ D.nx ρ (put S3 a (.dct (ks ++ [k]) (xs ++ [v])))
    | _ => False)
  | _ => False
theorem RepS.chgD {K : PySem.W.Frag} {H : Hp} {S : Sto} {D : Addr} {m : Mo} {ks xs : List Pv} {kvs : List (Key × V)} (rs : RepS K H S) (h : S D = some m) (r1 : RepVs K H S ks (kvs.map fun kv => kV kv.1)) (r2 : RepVs K H S xs (kvs.map (·.2))) : RepS K (upd H D (.dK kvs)) (put S D (.dct ks xs)) := fun a m' ha => by
  have e := Ext.chg (H := H) (m' := .dct ks xs) (o := .dK kvs) h
  by_cases z : a = D
  · subst z
    rw [put_same] at ha; cases ha
    exact ⟨kvs, upd_same, RepVs.ext rs e _ _ r1, RepVs.ext rs e _ _ r2⟩
  · rw [put_ne z] at ha
    have q := rs a m' ha
    cases m' with
    | lst ys => obtain ⟨us, e1, r⟩ := q; exact ⟨us, by rw [upd_ne z]; exact e1, RepVs.ext rs e _ _ r⟩
    | dct ks ys => obtain ⟨us, e1, r, r'⟩ := q; exact ⟨us, by rw [upd_ne z]; exact e1, RepVs.ext rs e _ _ r, RepVs.ext rs e _ _ r'⟩
    | tab n => exact tab_ext rs e q (by rw [upd_ne z])
    | exc C => obtain ⟨oe, e1, r⟩ := q; exact ⟨oe, by rw [upd_ne z]; exact e1, r⟩
    | lck o kvs => exact (upd_ne z).trans q
theorem kyP_inj {x y : Pv} {k : Key} (h : kyP x = some k) (h' : kyP y = some k) : x = y := by
  cases x <;> cases y <;> first
    | (simp [kyP] at h; done)
    | (simp [kyP] at h'; done)
    | (simp only [kyP, Option.some.injEq] at h h'
       rw [← h'] at h
       first
         | (injection h with h; rw [h]; done)
         | cases h)
/-- the keys, one by one -/
theorem keys_rep {K : PySem.W.Frag} {H : Hp} {S : Sto} : ∀ {ks : List Pv} {kvs : List (Key × V)}, RepVs K H S ks (kvs.map fun kv => kV kv.1) → (∀ z ∈ ks, (kyP z).isSome = true) → ks.map kyP = kvs.map fun kv => some kv.1
  | [], [], _, _ => rfl
  | [], _ :: _, h, _ => by cases (show _ = [] from h)
  | _ :: _, [], ⟨_, _, e, _⟩, _ => by cases e
  | x :: ks, kv :: kvs, ⟨v, r, e, h1, h2⟩, hk => by
    rw [List.map_cons] at e
    injection e with e1 e2
    subst e1 e2
    obtain ⟨k, hx⟩ := Option.isSome_iff_exists.mp (hk x List.mem_cons_self)
    have := kV_inj (kyP_rep hx h1)
    rw [List.map_cons, List.map_cons, keys_rep h2 fun z hz => hk z (List.mem_cons_of_mem _ hz), hx, this]
theorem val_none {K : PySem.W.Frag} {H : Hp} {S : Sto} {ks : List Pv} {kvs : List (Key × V)} (r : RepVs K H S ks (kvs.map fun kv => kV kv.1)) (hk : ∀ z ∈ ks, (kyP z).isSome = true) {k : Key} {x : Pv} (hx : kyP x = some k) (hn : x ∉ ks) : valV kvs k = none := by
  have e := keys_rep r hk
  cases q : valV kvs k with
  | none => rfl
  | some v =>
    exfalso
    have h1 := valV_any k kvs
    rw [q] at h1
    obtain ⟨kv, hkv, ek⟩ := List.any_eq_true.mp h1
    have ek : kv.1 = k := of_decide_eq_true ek
    have : some k ∈ ks.map kyP := by
      rw [e]
      exact List.mem_map.mpr ⟨kv, hkv, by rw [ek]⟩
    obtain ⟨z, hz, ez⟩ := List.mem_map.mp this
    exact hn (by rw [← kyP_inj ez hx]; exact hz)
theorem pz_putK {o i value : Expr} {fv fd fk : PF} {pos' : Pos} (hu : X.A.units + 64 < cLine) (hv : PV X S0 H0 value fv) (ho : PV X S0 H0 o fd) (hi : PV X S0 H0 i fk) (hs : swapsWith value (some (.Subscript o i pos')) pos.line X.env = pure false := by rfl) : PZ X S0 H0 (.Assign [.Subscript o i pos'] value pos) (gPutK fv fd fk) := by
  refine ⟨fun D D' ρ S l q => hv.mono _ _ _ _ (fun v S1 q => ho.mono _ _ _ _ (fun x S2 q => hi.mono _ _ _ _ (fun k S3 q => ?_) q) q) q, PS.imp (ps_dput (by omega) ho.pe hi.pe hv.pe hs) fun D σ H ⟨ρ, S, re, rs, ex, q⟩ => ?_⟩
  · split at q
    · split at q
      · exact ⟨q.1, q.2.1, q.2.2.1, q.2.2.2.1, l.1 _ _ q.2.2.2.2⟩
      · exact q
    · exact q
  refine ⟨ρ, S, re, rs, ex, hv.mono _ _ _ _ (fun p S1 q v H1 rv rs1 ex1 => ?_) q⟩
  refine ⟨ρ, S1, re.ext rs ex1, rs1, ex.trans ex1, ho.mono _ _ _ _ (fun x S2 q xv H2 rx rs2 ex2 => ?_) q⟩
  have e2 := ex1.trans ex2
  refine ⟨ρ, S2, re.ext rs e2, rs2, ex.trans e2, hi.mono _ _ _ _ (fun y S3 q yv H3 ry rs3 ex3 => ?_) q⟩
  have e3 := e2.trans ex3
  cases x with
  | ref a =>
    have q : (match S3 a with | some (.dct ks xs) => (kyP y).isSome = true ∧ (∀ z ∈ ks, (kyP z).isSome = true) ∧ y ∉ ks ∧ ks.length < sizeLine ∧ _ | _ => False) := q
    split at q
    · rename_i ks xs e
      obtain ⟨h1, h2, h3, h4, q⟩ := q
      obtain ⟨k, hk⟩ := Option.isSome_iff_exists.mp h1
      obtain ⟨kvs, hq, r1, r2⟩ := rs3 _ _ e
      have ey := kyP_rep hk ry
      have rv3 := RepV.ext rs1 (ex2.trans ex3) p v rv
      have hl : kvs.length = ks.length := by have := r1.len; rwa [List.length_map] at this
      have vn := val_none r1 h2 hk h3
      have ep := putK_new v vn
      have hx : xv = .ref a := rx
      refine ⟨a, _, hx, .inl ⟨kvs, k, hq, ey, by rw [hl]; exact h4, rfl⟩, ?_⟩
      rw [ep]
      have r1' : RepVs X.K H3 S3 (ks ++ [y]) ((kvs ++ [(k, v)]).map fun kv => kV kv.1) := by
        rw [List.map_append]
        exact r1.app ⟨kV k, [], rfl, by rw [← ey]; exact ry, rfl⟩
      have r2' : RepVs X.K H3 S3 (xs ++ [p]) ((kvs ++ [(k, v)]).map (·.2)) := by
        rw [List.map_append]
        exact r2.app ⟨v, [], rfl, rv3, rfl⟩
      have rsn := rs3.chgD e r1' r2'
      have en := e3.trans (Ext.chg (H := H3) (m' := .dct (ks ++ [y]) (xs ++ [p])) (o := .dK (kvs ++ [(k, v)])) e)
      exact q σ _ (re.ext rs en) rsn en
    · exact q.elim
  | _ => exact q.elim
/-- d == {} -/
theorem op_eqD0 (hu : X.A.units < cLine) : OpR X (compareOp .Eq) (fun x y H Q => ∃ (a b : Addr) (ks : List (Key × V)), x = .ref a ∧ y = .ref b ∧ Rd H a (.dK ks) ∧ Rd H b (.dK []) ∧ Q (.bl ks.isEmpty) H) := by
  intro pins s σ H x y v u Q I rx ry h
  obtain ⟨a, b, ks, rfl, rfl, ea, eb, q⟩ := h
  obtain rfl : v = Value.ref a := rx
  obtain rfl : u = Value.ref b := ry
  obtain ⟨_, ya, va, ra, da⟩ := dk_rd I.hok ea
  obtain ⟨_, yb, vb, rb, db⟩ := dk_rd I.hok eb
  have lb : vb.length = 0 := rb.length.symm
  have la := ra.length
  refine PySem.W.keq_eq (knd := mixKind X.prog X.w) (r := true) ya yb da db hu (fun hl => ?_) (fin_bl I q ?_)
  · have : ks = [] := List.length_eq_zero_iff.mp (by omega)
    subst this
    exact hits_all rb ra fun p hp => by cases hp
  · rw [lb, ← la]
    cases ks <;> rfl
theorem opEqD0 (hu : X.A.units + 64 < cLine) : OpR X (compareOp .Eq) (fun x y H Q => ∃ (a b : Addr) (ks : List (Key × V)), x = .ref a ∧ y = .ref b ∧ Rd H a (.dK ks) ∧ Rd H b (.dK []) ∧ Q (.bl ks.isEmpty) H) := op_eqD0 (by omega)
def oEqD0 : O2 := fun x y S Q => match dcP S x, y with
  | some (ks, _), .dct [] [] => Q (.bl ks.isEmpty) S
  | _, _ => False
theorem sim_eqD0 : Sim2 X.K (fun x y H Q => ∃ (a b : Addr) (ks : List (Key × V)), x = .ref a ∧ y = .ref b ∧ Rd H a (.dK ks) ∧ Rd H b (.dK []) ∧ Q (.bl ks.isEmpty) H) oEqD0 := by
  refine ⟨fun x y S Q Q' h q => ?_, fun x y S Qp v u H Q rx ry rs h k => ?_⟩
  · unfold oEqD0 at q ⊢
    split at q
    · exact h _ _ q
    · exact q
  · unfold oEqD0 at h
    split at h
    · rename_i ks xs e1
      obtain ⟨a, kvs, e2, hr, r1, r2⟩ := dcP_rep rs e1 rx
      obtain ⟨b, kvs2, e3, hr2, _, r3, _⟩ := ry
      have e4 : kvs2 = [] := by
        have := r3.len
        rw [List.length_map] at this
        exact List.length_eq_zero_iff.mp this
      subst e4
      have e5 : ks.isEmpty = kvs.isEmpty := by
        have := r1.len
        rw [List.length_map] at this
        cases ks <;> cases kvs <;> simp_all
      rw [e5] at h
      exact ⟨a, b, kvs, e2, e3, hr, hr2, k _ S _ H h rfl rs (Ext.refl S H)⟩
    · exact h.elim
/-- sorted(d), the keys texts -/
def oSortedD : On := fun ps S Q => match ps with
  | [x] => (match dcP S x with | some (ks, _) => ∃ ss : List Str, ks = ss.map .str ∧ ss.length < 64 ∧ ∀ ys, ys.Perm ss → sortedS ys = true → Q (.lst (ys.map .str)) S | none => False)
  | _ => False
theorem strs_rep {K : PySem.W.Frag} {H : Hp} {S : Sto} : ∀ (ys : List Str), RepVs K H S (ys.map .str) (ys.map V.str)
  | [] => rfl
  | y :: ys => ⟨.str y, ys.map V.str, rfl, rfl, strs_rep ys⟩
theorem pv_sortedD (hc : X.calm = true) (hm : X.mg "sorted" = none) (ha : PVs X S0 H0 [a] fs) (hg : Gl X "sorted" := by rfl) (he : starEach (a :: []) X.env = (false, eval a X.env) :: starEach [] X.env := by rfl) (hpl : (backTo pos (starEach [] X.env)).any (·.1) = false := by rfl) : PV X S0 H0 (.Call (.Name "sorted" p) [a] [] pos) (fN oSortedD fs) := by
  refine pv_callB (call_sortedD hc) ⟨fun x S Q Q' h q => ?_, fun x S Qp v H Q rx rs h k => ?_⟩ hg hm (by decide +kernel) ha (by decide) (by decide) he hpl
  · unfold oSortedD at q ⊢
    split at q
    · split at q
      · obtain ⟨ss, h1, h2, h3⟩ := q
        exact ⟨ss, h1, h2, fun ys a b => h _ _ (h3 ys a b)⟩
      · exact q
    · exact q
  · unfold oSortedD at h
    split at h
    · obtain ⟨v1, rfl, r1⟩ := rx.one
      split at h
      · rename_i ks xs e1
        obtain ⟨ss, rfl, h2, h3⟩ := h
        obtain ⟨b, kvs, e2, hr, q1, q2⟩ := dcP_rep rs e1 r1
        have ek := keys_rep q1 fun z hz => by obtain ⟨s, _, rfl⟩ := List.mem_map.mp hz; rfl
        have ek2 : kvs.map (·.1) = ss.map Sum.inr := by
          have : (kvs.map (·.1)).map some = (ss.map Sum.inr).map some := by
            rw [List.map_map, List.map_map]
            rw [List.map_map] at ek
            exact ek.symm
          exact (List.map_inj_right (fun a b e => Option.some.inj e)).mp this
        refine ⟨b, kvs, ss, by rw [e2], hr, ek2, h2, fun ys p' pm so np => ?_⟩
        have r9 : RepVs X.K H S (ys.map .str) (ys.map V.str) := strs_rep ys
        have rsn : RepS X.K (upd H p' (.lst (ys.map V.str))) S := rs.newT np
        exact k _ S _ _ (h3 ys pm so) ⟨p', ys.map V.str, rfl, upd_same, rs.fr np, strs_rep ys⟩ rsn (Ext.newT (K := X.K) np)
      · exact h.elim
    · exact h.elim
end
end PL

/-! dict(pairs), d.get(k, x). -/
namespace PL
open PySem PySem.Spec PyProof.Rows L2
theorem merge_nodup : ∀ (kvs acc : List (Key × V)), ((acc ++ kvs).map (·.1)).Nodup → mergeK acc kvs = acc ++ kvs
  | [], acc, _ => by rw [List.append_nil]; rfl
  | kv :: kvs, acc, h => by
    have vn : valV acc kv.1 = none := by
      cases q : valV acc kv.1 with
      | none => rfl
      | some v =>
        exfalso
        have h1 := valV_any kv.1 acc
        rw [q] at h1
        obtain ⟨z, hz, ez⟩ := List.any_eq_true.mp h1
        have ez : z.1 = kv.1 := of_decide_eq_true ez
        rw [List.map_append, List.nodup_append] at h
        exact h.2.2 z.1 (List.mem_map.mpr ⟨z, hz, rfl⟩) kv.1 (by rw [List.map_cons]; exact List.mem_cons_self) ez
    show mergeK (putK acc kv.1 kv.2) kvs = _
    rw [putK_new kv.2 vn]
    have e : acc ++ [(kv.1, kv.2)] = acc ++ [kv] := rfl
    rw [e, merge_nodup kvs (acc ++ [kv]) (by rw [List.append_assoc]; exact h), List.append_assoc]
    rfl
def tpP (t : Pv × Pv) : Pv := .tup [t.1, t.2]
theorem pairs_rep {K : PySem.W.Frag} {H : Hp} {S : Sto} : ∀ {ts : List (Pv × Pv)} {vs : List V}, RepVs K H S (ts.map tpP) vs → (∀ t ∈ ts, (kyP t.1).isSome = true) → ∃ (ps : List Addr) (kvs : List (Key × V)), vs = ps.map V.ref ∧ Paired (fun p kv => SqT K H p [kV kv.1, kv.2]) ps kvs ∧ RepVs K H S (ts.map (·.1)) (kvs.map fun kv => kV kv.1) ∧ RepVs K H S (ts.map (·.2)) (kvs.map (·.2))
  | [], vs, h, _ => ⟨[], [], h, .nil, rfl, rfl⟩
  | t :: ts, _, ⟨v, r, e, ⟨a, us, e2, hq, u1, r1, e3, h1, u2, r2, e4, h2, e5⟩, h'⟩, hk => by
    obtain ⟨ps, kvs, a1, a2, a3, a4⟩ := pairs_rep h' fun z hz => hk z (List.mem_cons_of_mem _ hz)
    obtain ⟨k, hx⟩ := Option.isSome_iff_exists.mp (hk t List.mem_cons_self)
    have ek := kyP_rep hx h1
    have e5 : r2 = [] := e5
    subst e5 e4 e3 e2 ek
    exact ⟨a :: ps, (k, u2) :: kvs, by rw [e, a1]; rfl, .cons hq a2, ⟨_, _, rfl, h1, a3⟩, ⟨_, _, rfl, h2, a4⟩⟩
def oDictOf : On := fun ps S Q => match ps with
  | [x] => (match rdL S x with | some ys => ∃ ts : List (Pv × Pv), ys = ts.map tpP ∧ (∀ t ∈ ts, (kyP t.1).isSome = true) ∧ (ts.map (·.1)).Nodup ∧ Q (.dct (ts.map (·.1)) (ts.map (·.2))) S | none => False)
  | _ => False
/-- what stands at a key -/
def getK : List Pv → List Pv → Pv → Option Pv
  | k0 :: ks, x0 :: xs, k => if kyP k0 = kyP k then some x0 else getK ks xs k
  | _, _, _ => none
theorem get_rep {K : PySem.W.Frag} {H : Hp} {S : Sto} {k : Pv} {key : Key} (hk : kyP k = some key) : ∀ {ks xs : List Pv} {kvs : List (Key × V)}, RepVs K H S ks (kvs.map fun kv => kV kv.1) → RepVs K H S xs (kvs.map (·.2)) → (∀ z ∈ ks, (kyP z).isSome = true) →
    (valV kvs key = none ∧ getK ks xs k = none) ∨ ∃ v x, valV kvs key = some v ∧ getK ks xs k = some x ∧ RepV K H S x v
  | [], [], [], _, _, _ => .inl ⟨rfl, rfl⟩
  | [], _ :: _, [], _, ⟨_, _, e, _⟩, _ => by cases e
  | _ :: _, _, [], ⟨_, _, e, _⟩, _, _ => by cases e
  | [], _, _ :: _, e, _, _ => by cases (show _ = [] from e)
  | _ :: _, [], _ :: _, _, e, _ => by cases (show _ = [] from e)
  | k0 :: ks, x0 :: xs, kv :: kvs, ⟨v, r, e, h1, h2⟩, ⟨v', r', e', h1', h2'⟩, hh => by
    rw [List.map_cons] at e e'
    injection e with e1 e2
    injection e' with e1' e2'
    subst e1 e2 e1' e2'
    obtain ⟨c, hc⟩ := Option.isSome_iff_exists.mp (hh k0 List.mem_cons_self)
    have ec : kv.1 = c := kV_inj (kyP_rep hc h1)
    unfold getK
    by_cases z : c = key
    · rw [if_pos (by rw [hc, hk, z])]
      exact .inr ⟨kv.2, x0, valV_pos (ec.trans z), rfl, h1'⟩
    · rw [if_neg (by rw [hc, hk]; exact fun w => z (Option.some.inj w)), valV_neg (by rw [ec]; exact z)]
      exact get_rep hk h2 h2' fun y hy => hh y (List.mem_cons_of_mem _ hy)
def fDGet2 (fd fk fx : PF) : PF := fun ρ S Q => fd ρ S fun x S1 => (dcP S1 x).isSome = true ∧ fk ρ S1 fun k S2 => fx ρ S2 fun z S3 => match dcP S3 x with
  | some (ks, xs) => (kyP k).isSome = true ∧ (∀ y ∈ ks, (kyP y).isSome = true) ∧ Q ((getK ks xs k).getD z) S3
  | none => False
section
variable {X : Cx} {S0 : Sto} {H0 : Hp} {a b e : Expr} {fa fb fe : PF} {pos p : Pos} {fs : PFs}
theorem pv_dictOf (hc : X.calm = true) (hm : X.mg "dict" = none) (ha : PVs X S0 H0 [a] fs) (hg : Gl X "dict" := by rfl) (he : starEach (a :: []) X.env = (false, eval a X.env) :: starEach [] X.env := by rfl) (hpl : (backTo pos (starEach [] X.env)).any (·.1) = false := by rfl) : PV X S0 H0 (.Call (.Name "dict" p) [a] [] pos) (fN oDictOf fs) := by
  refine pv_callTy (call_dictP hc) ⟨fun x S Q Q' h q => ?_, fun x S Qp v H Q rx rs h k => ?_⟩ hg hm (by decide +kernel) ha (by decide) (by decide) he hpl
  · unfold oDictOf at q ⊢
    split at q
    · split at q
      · obtain ⟨ts, h1, h2, h3, h4⟩ := q
        exact ⟨ts, h1, h2, h3, h _ _ h4⟩
      · exact q
    · exact q
  · unfold oDictOf at h
    split at h
    · obtain ⟨v1, rfl, r1⟩ := rx.one
      split at h
      · rename_i ys e1
        obtain ⟨ts, rfl, h2, h3, h4⟩ := h
        obtain ⟨l, us, e2, hq, ru⟩ := rdL_rep rs r1 e1
        obtain ⟨ps, kvs, a1, a2, a3, a4⟩ := pairs_rep ru h2
        subst a1
        have ek := keys_rep a3 fun z hz => by obtain ⟨t, ht, rfl⟩ := List.mem_map.mp hz; exact h2 t ht
        have nd : ((([] : List (Key × V)) ++ kvs).map (·.1)).Nodup := by
          have n1 : ((ts.map (fun t : Pv × Pv => t.1)).map kyP).Nodup := by
            refine List.Pairwise.map kyP (R := fun x y => x ≠ y ∧ (kyP x).isSome = true) (fun x y h e => ?_) ?_
            · obtain ⟨c, hc⟩ := Option.isSome_iff_exists.mp h.2
              exact h.1 (kyP_inj hc (by rw [← e]; exact hc))
            · have hall : ∀ x ∈ ts.map (fun t : Pv × Pv => t.1), (kyP x).isSome = true := fun x hx => by obtain ⟨t, ht, rfl⟩ := List.mem_map.mp hx; exact h2 t ht
              exact List.Pairwise.imp_of_mem (fun {x y} hx hy hne => ⟨hne, hall x hx⟩) h3
          rw [ek] at n1
          have : (kvs.map fun kv => some kv.1) = (kvs.map (fun kv : Key × V => kv.1)).map some := by rw [List.map_map]; rfl
          rw [this] at n1
          exact List.Pairwise.of_map some (fun x y hne e => hne (congrArg some e)) n1
        refine ⟨l, ps, kvs, by rw [e2], hq, a2, fun p' np => ?_⟩
        rw [merge_nodup kvs [] nd, List.nil_append]
        have ext : Ext S H S (upd H p' (.dK kvs)) := Ext.newT (K := X.K) np
        exact k _ S _ _ h4 ⟨p', kvs, rfl, .inl upd_same, rs.fr np, RepVs.ext rs ext _ _ a3, RepVs.ext rs ext _ _ a4⟩ (rs.newT np) ext
      · exact h.elim
    · exact h.elim
theorem pv_dget2 {o e f : Expr} {fd fk fx : PF} {apos cpos : Pos} (hu : X.A.units + 64 < cLine) (ho : PV X S0 H0 o fd) (he : PV X S0 H0 e fk) (hf : PV X S0 H0 f fx) (hbase : attributeBase o "get" X.env (eval o X.env) = eval o X.env := by rfl)
    (hfew : ((backTo cpos (starEach [e, f] X.env)).all (fun x => !x.1) && (backToKw cpos (keywordEach [] X.env)).all (fun x => x.1.isSome) && decide (([e, f] : List Expr).length + ([] : List Keyword).length + (if ([] : List Keyword).isEmpty then 0 else 1) < 30)) = true := by rfl)
    (hline : (apos.endLine == cpos.line) = true := by rfl) (htr : backTo cpos (starEach [e, f] X.env) = [(false, eval e X.env), (false, eval f X.env)] := by rfl) :
    PV X S0 H0 (.Call (.Attribute o "get" apos) [e, f] [] cpos) (fDGet2 fd fk fx) := by
  refine ⟨fun ρ S Q Q' i q => ho.mono _ _ _ _ (fun x S1 q => ⟨q.1, he.mono _ _ _ _ (fun k S2 q => hf.mono _ _ _ _ (fun z S3 q => ?_) q) q.2⟩) q, PE.imp (pe_dget2 (by omega) ho.pe he.pe hf.pe ⟨hbase, hfew, hline, htr⟩) fun σ H Q ⟨ρ, S, re, rs, ex, q⟩ => ?_⟩
  · split at q
    · exact ⟨q.1, q.2.1, i _ _ q.2.2⟩
    · exact q
  refine ⟨ρ, S, re, rs, ex, ho.mono _ _ _ _ (fun x S1 q v H1 rx rs1 ex1 => ?_) q⟩
  obtain ⟨q0, q⟩ := q
  obtain ⟨⟨ks0, xs0⟩, e0⟩ := Option.isSome_iff_exists.mp q0
  obtain ⟨a0, kvs0, ea, hr0, _, _⟩ := dcP_rep rs1 e0 rx
  refine ⟨a0, ea, .inl ⟨kvs0, hr0⟩, ρ, S1, re.ext rs ex1, rs1, ex.trans ex1, he.mono _ _ _ _ (fun y S2 q yv H2 ry rs2 ex2 => ?_) q⟩
  have e2 := ex1.trans ex2
  refine ⟨ρ, S2, re.ext rs e2, rs2, ex.trans e2, hf.mono _ _ _ _ (fun z S3 q zv H3 rz rs3 ex3 => ?_) q⟩
  have e3 := e2.trans ex3
  split at q
  · rename_i ks xs e1
    obtain ⟨h1, h2, q⟩ := q
    obtain ⟨key, hk⟩ := Option.isSome_iff_exists.mp h1
    have rx3 : RepV X.K H3 S3 x v := RepV.ext rs1 (ex2.trans ex3) x v rx
    have ry3 : RepV X.K H3 S3 y yv := RepV.ext rs2 ex3 y yv ry
    obtain ⟨a1, kvs, ea1, hr, r1, r2⟩ := dcP_rep rs3 e1 rx3
    have eaa : a1 = a0 := by rw [ea1] at ea; injection ea
    subst eaa
    refine ⟨valV kvs key, .inl ⟨kvs, key, hr, kyP_rep hk ry3, rfl⟩, ?_⟩
    rcases get_rep hk r1 r2 h2 with ⟨g1, g2⟩ | ⟨w, xx, g1, g2, g3⟩
    · rw [g1]
      rw [g2] at q
      exact q zv H3 rz rs3 e3
    · rw [g1]
      rw [g2] at q
      exact q w H3 g3 rs3 e3
  · exact q.elim
/-- int(text) -/
def oIntS : On := fun ps S Q => match ps with
  | [.str a] => ∃ n, PySem.intText? a = some n ∧ a.length ≤ 640 ∧ Q (.int n) S
  | _ => False
theorem pv_intS (hm : X.mg "int" = none) (ha : PVs X S0 H0 [a] fs) (hg : Gl X "int" := by rfl) (he : starEach (a :: []) X.env = (false, eval a X.env) :: starEach [] X.env := by rfl) (hpl : (backTo pos (starEach [] X.env)).any (·.1) = false := by rfl) : PV X S0 H0 (.Call (.Name "int" p) [a] [] pos) (fN oIntS fs) := by
  refine pv_callTy call_int_str ⟨fun x S Q Q' h q => ?_, fun x S Qp v H Q rx rs h k => ?_⟩ hg hm (by decide +kernel) ha (by decide) (by decide) he hpl
  · unfold oIntS at q ⊢
    split at q
    · obtain ⟨n, h1, h2, h3⟩ := q
      exact ⟨n, h1, h2, h _ _ h3⟩
    · exact q.elim
  · unfold oIntS at h
    split at h
    · rename_i z
      obtain ⟨n, h1, h2, h3⟩ := h
      obtain ⟨v1, rfl, r1⟩ := rx.one
      exact ⟨z, n, by rw [show v1 = _ from r1], h1, h2, k _ S _ H h3 rfl rs (Ext.refl S H)⟩
    · exact h.elim
end
end PL

/-! Whose a point is, what clocks show: plain. -/
namespace PL
open PySem PySem.Spec PyProof.Rows L2
/-! ### two clauses, nothing changed -/
theorem lc2_pure {α β : Type} {gd : Sto → Prop} {t t1 : Tg} {fi1 : PFI} {te : PF} {ρ : Env'} {vs1 : List Nat} {D : Addr} {Q : List Pv → Sto → Prop} {S : Sto} (ys : List β) (g : α → Pv) (g1 : β → Pv) (f : α → β → Pv) (hD : S D = none) (hg : ∀ S', gd S') : ∀ (xs : List α) (acc : List Pv), acc.length + xs.length * ys.length ≤ sizeLine →
    (∀ x ∈ xs, ∀ S', Has S S' → ∃ ρ2, bindT S' t (g x) ρ = some ρ2 ∧ (∀ k, k (ys.map g1) tru S' → fi1 ρ2 S' k) ∧ ∀ y ∈ ys, ∀ S'', Has S S'' → ∃ ρ3, bindT S'' t1 (g1 y) (wipeP ρ2 vs1) = some ρ3 ∧ ∀ k : QV, k (f x y) S'' → te ρ3 S'' k) →
    Q (acc ++ xs.flatMap fun x => ys.map (f x)) S → lc2W gd t fYes fi1 t1 fYes te ρ vs1 D Q (xs.map g) acc S
  | [], acc, _, _, q => ⟨hg _, by simpa using q⟩
  | x :: xs, acc, l, h, q => by
    refine ⟨hg _, ?_⟩
    obtain ⟨ρ2, e, h1, h2⟩ := h x List.mem_cons_self _ (Has.put (m := .lst acc) hD)
    rw [e]
    have l' : acc.length + (ys.length + xs.length * ys.length) ≤ sizeLine := by
      rw [List.length_cons, Nat.succ_mul] at l
      omega
    refine h1 _ ⟨put_same, ?_⟩
    rw [del_put hD]
    refine lcW_pure g1 (fun _ => true) (f x) hD (fun _ _ => trivial) ys acc (by omega) (fun y hy S' hs => ?_) ?_
    · obtain ⟨ρ3, e3, h3⟩ := h2 y hy S' hs
      exact ⟨ρ3, e3, fun kk z => z, fun _ k z => h3 k z⟩
    · rw [List.filter_eq_self.mpr (fun _ _ => rfl)]
      refine lc2_pure ys g g1 f hD hg xs _ (by rw [List.length_append, List.length_map]; omega) (fun z hz => h z (List.mem_cons_of_mem _ hz)) ?_
      rw [List.flatMap_cons, ← List.append_assoc] at q
      exact q
theorem lc2_map {α β : Type} {gd : Sto → Prop} {t t1 : Tg} {fi1 : PFI} {te : PF} {ρ : Env'} {vs1 : List Nat} {Q : List Pv → Sto → Prop} {S : Sto} {its : List Pv} (xs : List α) (ys : List β) (g : α → Pv) (g1 : β → Pv) (f : α → β → Pv) (e : its = xs.map g) (l : xs.length * ys.length ≤ sizeLine) (hg : ∀ S', gd S')
    (h : ∀ x ∈ xs, ∀ S', Has S S' → ∃ ρ2, bindT S' t (g x) ρ = some ρ2 ∧ (∀ k, k (ys.map g1) tru S' → fi1 ρ2 S' k) ∧ ∀ y ∈ ys, ∀ S'', Has S S'' → ∃ ρ3, bindT S'' t1 (g1 y) (wipeP ρ2 vs1) = some ρ3 ∧ ∀ k : QV, k (f x y) S'' → te ρ3 S'' k)
    (q : Q (xs.flatMap fun x => ys.map (f x)) S) : ∀ D, S D = none → lc2W gd t fYes fi1 t1 fYes te ρ vs1 D Q its [] S := fun D hD => by
  rw [e]
  exact lc2_pure ys g g1 f hD hg xs [] (by simpa using l) h (by simpa using q)
/-! ### cells -/
def hasT (p : Rat × Rat) (ds : List Nat) : Bool := decide (colN p.1 ds.length = (spN ds).1) && decide (colN p.2 ds.length = (spN ds).2)
def bkX (ds : List Nat) : Nat := (spN ds).1 * 2 ^ (4 - ds.length)
def bkY (ds : List Nat) : Nat := (spN ds).2 * 2 ^ (4 - ds.length)
def bkM (ds : List Nat) : Nat := 2 ^ (4 - ds.length)
def cellsL (ds : List Nat) : List Pv := (List.range (bkM ds)).flatMap fun i => (List.range (bkM ds)).map fun j => .tup [.int ((bkX ds : Int) + (i : Nat)), .int ((bkY ds : Int) + (j : Nat))]
theorem bk_snoc {ds : List Nat} {d : Nat} (h : ds.length < 4) : bkM (ds ++ [d]) = bkM ds / 2 ∧ bkX (ds ++ [d]) = bkX ds + d % 2 * (bkM ds / 2) ∧ bkY (ds ++ [d]) = bkY ds + d / 2 * (bkM ds / 2) := by
  unfold bkM bkX bkY
  rw [spN_snoc, List.length_append, List.length_singleton]
  have e : 4 - ds.length = (4 - (ds.length + 1)) + 1 := by omega
  rw [e, Nat.pow_succ]
  generalize 2 ^ (4 - (ds.length + 1)) = w
  have hw : w * 2 / 2 = w := Nat.mul_div_cancel _ (by decide)
  refine ⟨hw.symm, ?_, ?_⟩
  · show (2 * (spN ds).1 + d % 2) * w = _
    rw [hw, Nat.add_mul]
    grind
  · show (2 * (spN ds).2 + d / 2) * w = _
    rw [hw, Nat.add_mul]
    grind
theorem bkM_le (ds : List Nat) : bkM ds ≤ 16 := by
  unfold bkM
  exact Nat.le_trans (Nat.pow_le_pow_right (by decide) (Nat.sub_le _ _)) (by decide)
theorem colN_div {q : Rat} (h : 0 ≤ q.num) (n : Nat) : ∀ k : Nat, colN q (n + k) / 2 ^ k = colN q n
  | 0 => by simp
  | k + 1 => by
    rw [Nat.pow_succ, Nat.mul_comm, ← Nat.div_div_eq_div_mul, ← Nat.add_assoc, colN_half h]
    exact colN_div h n k
theorem in_blk {c x w : Nat} (hw : 0 < w) : (∃ i, i < w ∧ x * w + i = c) ↔ c / w = x := by
  constructor
  · rintro ⟨i, hi, rfl⟩
    rw [Nat.mul_comm, Nat.mul_add_div hw, Nat.div_eq_of_lt hi, Nat.add_zero]
  · rintro rfl
    exact ⟨c % w, Nat.mod_lt _ hw, Nat.div_add_mod' c w⟩
theorem cell_mem {p : Rat × Rat} (hp : inLand p) {ds : List Nat} (hl : ds.length ≤ 4) : memD (.tup [.int (colN p.1 4 : Nat), .int (colN p.2 4 : Nat)]) (cellsL ds) = hasT p ds := by
  have hw : 0 < bkM ds := Nat.pow_pos (by decide)
  have e4 : ds.length + (4 - ds.length) = 4 := by omega
  have h1 := colN_div hp.1.1 ds.length (4 - ds.length)
  have h2 := colN_div hp.2.1 ds.length (4 - ds.length)
  rw [e4] at h1 h2
  have b1 := in_blk (c := colN p.1 4) (x := (spN ds).1) hw
  have b2 := in_blk (c := colN p.2 4) (x := (spN ds).2) hw
  rw [show bkM ds = 2 ^ (4 - ds.length) from rfl, h1] at b1
  rw [show bkM ds = 2 ^ (4 - ds.length) from rfl, h2] at b2
  rw [Bool.eq_iff_iff]
  unfold memD hasT
  rw [toDs_map, List.any_map, Bool.and_eq_true, decide_eq_true_eq, decide_eq_true_eq, ← b1, ← b2, List.any_eq_true]
  have eq2 : ∀ a b c d : Int, ((fun z => PyData.eqv z (toD (.tup [.int c, .int d]))) ∘ toD) (.tup [.int a, .int b]) = (decide (a = c) && decide (b = d)) := fun a b c d => by
    show ((a == c) && ((b == d) && true)) = _
    rw [Bool.and_true]
    rfl
  constructor
  · rintro ⟨z, hz, ez⟩
    unfold cellsL at hz
    obtain ⟨i, hi, hz⟩ := List.mem_flatMap.mp hz
    obtain ⟨j, hj, rfl⟩ := List.mem_map.mp hz
    rw [eq2, Bool.and_eq_true, decide_eq_true_eq, decide_eq_true_eq] at ez
    rw [List.mem_range] at hi hj
    refine ⟨⟨i, hi, ?_⟩, j, hj, ?_⟩
    · have := ez.1
      have e : bkX ds + i = colN p.1 4 := by omega
      exact e
    · have := ez.2
      have e : bkY ds + j = colN p.2 4 := by omega
      exact e
  · rintro ⟨⟨i, hi, ei⟩, j, hj, ej⟩
    refine ⟨.tup [.int ((bkX ds : Int) + (i : Nat)), .int ((bkY ds : Int) + (j : Nat))], ?_, ?_⟩
    · unfold cellsL
      exact List.mem_flatMap.mpr ⟨i, List.mem_range.mpr hi, List.mem_map.mpr ⟨j, List.mem_range.mpr hj, rfl⟩⟩
    · rw [eq2, Bool.and_eq_true, decide_eq_true_eq, decide_eq_true_eq]
      have e1 : bkX ds + i = colN p.1 4 := ei
      have e2 : bkY ds + j = colN p.2 4 := ej
      constructor <;> omega
theorem cells_ok (ds : List Nat) : okD (.lst (cellsL ds)) = true := by
  have hm : ∀ x ∈ cellsL ds, ∃ a b : Int, x = .tup [.int a, .int b] := fun x hx => by
    unfold cellsL at hx
    obtain ⟨i, hi, hx⟩ := List.mem_flatMap.mp hx
    obtain ⟨j, hj, rfl⟩ := List.mem_map.mp hx
    exact ⟨_, _, rfl⟩
  generalize cellsL ds = l at hm
  have h1 : isDs l = true := isDs_iff.mpr fun x hx => by obtain ⟨a, b, rfl⟩ := hm x hx; rfl
  have h2 : PyData.canLayAll0 (toDs l) = true ∧ PyData.depthAll (toDs l) ≤ 1 := by
    clear h1
    induction l with
    | nil => exact ⟨rfl, by decide⟩
    | cons x l ih =>
      obtain ⟨a, b, rfl⟩ := hm x List.mem_cons_self
      obtain ⟨i1, i2⟩ := ih fun y hy => hm y (List.mem_cons_of_mem _ hy)
      refine ⟨?_, ?_⟩
      · show (true && PyData.canLayAll0 (toDs l)) = true
        rw [i1]; rfl
      · show max 1 (PyData.depthAll (toDs l)) ≤ 1
        omega
  unfold okD SeqAt.shaped
  rw [show isD (.lst l) = true from h1, show PyData.canLay0 (toD (.lst l)) = true from h2.1, Bool.true_and]
  have : PyData.depth (toD (.lst l)) ≤ 2 := Nat.succ_le_succ h2.2
  simp only [Bool.true_and]
  exact decide_eq_true (Nat.le_trans this (by decide))
theorem cell_floor {q : Rat} (h : inL q) : q.num.fdiv (4 * q.den) = (colN q 4 : Nat) := by
  have hd := den_pos q
  rw [div_nat h.1, Int.fdiv_eq_ediv_of_nonneg _ (by omega)]
  have e : q.num * 2 ^ 4 / (64 * (q.den : Int)) = q.num / (4 * q.den) := by
    rw [show (64 : Int) * q.den = (4 * q.den) * 2 ^ 4 by omega]
    exact Int.mul_ediv_mul_of_pos_left _ _ (by decide)
  rw [e]
/-! ### moves, zones -/
abbrev Mv := Int × List (List Nat) × Str
def mvP (m : Mv) : Pv := .tup [.int m.1, .tup (m.2.1.map fun ds => .str (cdS ds)), .str m.2.2]
def CdOk (cs : List (List Nat)) : Prop := ∀ ds ∈ cs, (∀ d ∈ ds, d < 4) ∧ ds.length ≤ 4
def regF (p : Rat × Rat) (day : Int) (r : Str) (m : Mv) : Str := if (decide (m.1 ≤ day) && m.2.1.any (hasT p)) = true then m.2.2 else r
def regOf (ms : List Mv) (p : Rat × Rat) (day : Int) : Str := ms.foldl (regF p day) "land"
theorem regOf_snoc (ms : List Mv) (m : Mv) (p : Rat × Rat) (day : Int) : regOf (ms ++ [m]) p day = regF p day (regOf ms p day) m := by
  unfold regOf
  rw [List.foldl_append]
  rfl
abbrev Zo := Str × List (Int × Int)
def rwP (t : Int × Int) : Pv := .tup [.int t.1, .int t.2]
def zoP (z : Zo) : Pv := .tup [.str z.1, .tup (z.2.map rwP)]
/-- the last one told by then -/
def lastOf (rs : List (Int × Int)) (t : Int) : Int := (((rs.filter fun r => decide (r.1 ≤ t)).map (·.2)).getLast?).getD 0
def minOf (zs : List Zo) (r : Str) (t : Int) : Int := match zs.find? (fun z => decide (z.1 = r)) with
  | some z => lastOf z.2 t
  | none => 0
/-- rows begin at nought -/
def RwZ (rs : List (Int × Int)) : Prop := ∃ m rest, rs = (0, m) :: rest
theorem at_last {xs : List Pv} {x : Pv} : atI (xs ++ [x]) (-1) = some x := by
  unfold atI ixN
  rw [List.length_append, List.length_singleton]
  rw [if_neg (by decide), if_pos (by omega)]
  have e : ((-1 : Int) + ((xs.length + 1 : Nat) : Int)).toNat = xs.length := by omega
  simp only [e]
  simp
theorem last_some {rs : List (Int × Int)} {t : Int} (h : RwZ rs) (ht : 0 ≤ t) : ∃ pre x, (rs.filter fun r => decide (r.1 ≤ t)).map (·.2) = pre ++ [x] ∧ lastOf rs t = x := by
  obtain ⟨m, rest, rfl⟩ := h
  have hne : ((((0, m) : Int × Int) :: rest).filter fun r => decide (r.1 ≤ t)).map (·.2) ≠ [] := by
    rw [List.filter_cons_of_pos (by exact decide_eq_true ht)]
    simp
  refine ⟨_, _, (List.dropLast_concat_getLast hne).symm, ?_⟩
  unfold lastOf
  rw [List.getLast?_eq_some_getLast hne]
  rfl
/-- what clocks show -/
def shP3 (n : Int) : Pv := .tup [.int (n.fdiv 1440), .int ((n.fmod 1440).fdiv 60), .int (n.fmod 60)]
theorem fd (n : Int) : n.fdiv 1440 = n / 1440 ∧ n.fdiv 60 = n / 60 ∧ n.fmod 1440 = n % 1440 ∧ n.fmod 60 = n % 60 ∧ n.fmod 24 = n % 24 :=
  ⟨Int.fdiv_eq_ediv_of_nonneg _ (by decide), Int.fdiv_eq_ediv_of_nonneg _ (by decide), Int.fmod_eq_emod_of_nonneg _ (by decide), Int.fmod_eq_emod_of_nonneg _ (by decide), Int.fmod_eq_emod_of_nonneg _ (by decide)⟩
theorem shown_law (n : Int) : shP3 n = .tup [.int (n.fdiv 1440), .int ((n - 1440 * n.fdiv 1440).fdiv 60), .int ((n - 1440 * n.fdiv 1440).fmod 60)] := by
  unfold shP3
  have a := fd n
  have b := fd (n - 1440 * n.fdiv 1440)
  have c := fd (n.fmod 1440)
  rw [b.2.1, b.2.2.2.1, c.2.1, a.1, a.2.2.1, a.2.2.2.1]
  have e1 : n % 1440 / 60 = (n - 1440 * (n / 1440)) / 60 := by omega
  have e2 : n % 60 = (n - 1440 * (n / 1440)) % 60 := by omega
  rw [e1, e2]
theorem shown_nil (n : Int) : shP3 n = .tup [.int (n.fdiv 1440), .int ((n.fdiv 60).fmod 24), .int (n.fmod 60)] := by
  unfold shP3
  have a := fd n
  have b := fd (n.fdiv 60)
  have c := fd (n.fmod 1440)
  rw [c.2.1, b.2.2.2.2, a.2.1, a.2.2.1]
  have e1 : n % 1440 / 60 = n / 60 % 24 := by omega
  rw [e1]
def MsZ (ms : List Mv) (zs : List Zo) : Prop := (∀ m ∈ ms, CdOk m.2.1 ∧ m.2.1.length ≤ 100) ∧ ∀ z ∈ zs, RwZ z.2 ∧ z.2.length ≤ 100
def shownP (ms : List Mv) (zs : List Zo) (p : Rat × Rat) (t : Int) : Pv := shP3 (t + minOf zs (regOf ms p (t.fdiv 1440)) t)
structure MzOk (ms : List Mv) (zs : List Zo) : Prop where
  mz : MsZ ms zs
  m1 : smP (.tup (ms.map mvP)) = true
  m2 : movesP (.tup (ms.map mvP)) = true
  z1 : smP (.tup (zs.map zoP)) = true
  z2 : zonesP (.tup (zs.map zoP)) = true
end PL

/-! sorted(set(xs)), a list that is changed later. -/
namespace PL
open PySem PySem.Spec PyProof.Rows L2 PLS
open PySem.W (dataLe dataLt alike AllAlike EachIs)
def oSortedSetT : On := fun ps S Q => match ps with
  | [x] => (match sqP S x with | some xs => setOk xs ∧ AllAlike (xs.map toD) ∧ PySem.W.Sortable (xs.map toD) ∧ ∀ ys, setOf xs ys → ∀ a, S a = none → Q (.ref a) (put S a (.lst (sortP ys))) | none => False)
  | _ => False
section
variable {X : Cx} {S0 : Sto} {H0 : Hp} {a : Expr} {fs : PFs} {pos p p2 q : Pos}
theorem pv_sortedSetT (hc : X.calm = true) (hu : X.A.units + 64 < cLine) (hm : X.mg "sorted" = none) (hm2 : X.mg "set" = none) (ha : PVs X S0 H0 [a] fs) (hg : Gl X "sorted" := by rfl) (hg2 : Gl X "set" := by rfl)
    (he : starEach [.Call (.Name "set" p2) [a] [] q] X.env = (false, eval (.Call (.Name "set" p2) [a] [] q) X.env) :: starEach [] X.env := by rfl) (hpl : (backTo pos (starEach [] X.env)).any (·.1) = false := by rfl)
    (he2 : starEach [a] X.env = (false, eval a X.env) :: starEach [] X.env := by rfl) (hpl2 : (backTo q (starEach [] X.env)).any (·.1) = false := by rfl) :
    PV X S0 H0 (.Call (.Name "sorted" p) [.Call (.Name "set" p2) [a] [] q] [] pos) (fN oSortedSetT fs) := by
  refine ⟨fN_mono (fun x S Q Q' h q => ?_) ha, PE.imp (pe_callB (cr_sortedM hc hu) hg hm (by decide +kernel) (pa_cons (pe_callTy (cr_setM hc hu) hg2 hm2 (by decide +kernel) ha.pa (by decide) (by decide) he2 hpl2) pa_nil he) (by decide) (by decide) he hpl) fun σ H Q ⟨ρ, S, re, rs, ex, h⟩ => ?_⟩
  · unfold oSortedSetT at q ⊢
    split at q
    · split at q
      · exact ⟨q.1, q.2.1, q.2.2.1, fun ys hy a ha => h _ _ (q.2.2.2 ys hy a ha)⟩
      · exact q
    · exact q
  · refine ⟨ρ, S, re, rs, ex, ha.mono _ _ _ _ (fun ps S1 h vs H1 rv rs1 ex1 => ?_) h⟩
    unfold oSortedSetT at h
    split at h
    · obtain ⟨v1, rfl, r1⟩ := rv.one
      split at h
      · rename_i xs e0
        obtain ⟨⟨⟨m, hk⟩, D, hD, hd⟩, al, so, h⟩ := h
        obtain ⟨t, vs, e1, hq, r⟩ := sqP_rep rs1 r1 e0
        have zf := zip_fst r
        have hkk : ∀ x ∈ xs, isK x = true := fun x hx => (hk x hx).isK
        refine ⟨m, t, vs.zip (xs.map toK), D.map toK, by rw [e1], by rw [zf]; exact hq, kvs_of r hk, by rw [List.length_map]; exact lim_of hD, dset (K := X.K) hd, fun b L hn l1 l2 l3 => ?_⟩
        have kL : KVs m X.K (upd H1 b (SetMO m X.w b L)) L := fun z hz => kvs_upd rs1 hn r hk z (l1 z hz)
        have dl : ∀ z ∈ L, ∃ x ∈ xs, z.2.data = toD x := fun z hz => by
          obtain ⟨x, hx, e⟩ := List.mem_map.mp (List.of_mem_zip (l1 z hz)).2
          exact ⟨x, hx, by rw [← e, toK_data x (hkk x hx)]⟩
        refine ⟨m, b, L, rfl, upd_same, kL, ?_, ?_, fun L1 p pm np => ?_⟩
        · intro d hd d' hd'
          obtain ⟨z, hz, rfl⟩ := List.mem_map.mp hd
          obtain ⟨z', hz', rfl⟩ := List.mem_map.mp hd'
          obtain ⟨x, hx, e⟩ := dl z hz
          obtain ⟨x', hx', e'⟩ := dl z' hz'
          rw [e, e']
          exact al _ (List.mem_map.mpr ⟨x, hx, rfl⟩) _ (List.mem_map.mpr ⟨x', hx', rfl⟩)
        · have mm : ∀ d ∈ L.map fun z => z.2.data, d ∈ xs.map toD := fun d hd => by
            obtain ⟨z, hz, rfl⟩ := List.mem_map.mp hd
            obtain ⟨x, hx, e⟩ := dl z hz
            rw [e]
            exact List.mem_map.mpr ⟨x, hx, rfl⟩
          rcases so with s1 | s1
          · exact .inl fun d hd => s1 d (mm d hd)
          · exact .inr fun d hd => s1 d (mm d hd)
        · have ml : ∀ z ∈ L1, z ∈ L := fun z hz => pm.mem_iff.mp hz
          obtain ⟨ys, sy, ek, ry⟩ := set_row r hkk (L := L1) (fun z hz => l1 z (ml z hz)) ((pm.map (·.2)).nodup_iff.mpr l2) fun z hz => (pm.map (·.2)).mem_iff.mpr (l3 z hz)
          have ext1 : Ext S1 H1 S1 (upd H1 b (SetMO m X.w b L)) := Ext.newT (K := X.K) hn
          have rs2 : RepS X.K (upd H1 b (SetMO m X.w b L)) S1 := rs1.newT hn
          have ry2 := RepVs.ext rs1 ext1 _ _ ry
          have em : (L1.mergeSort (dataLe false fun z => z.2.data)).map (·.1) = (((L1.map (·.1)).zip (toDs ys)).mergeSort (dataLe false (·.2))).map (·.1) := by
            have e3 : (L1.map (·.1)).zip (toDs ys) = L1.map fun z => (z.1, z.2.data) := by
              have e4 : toDs ys = L1.map fun z => z.2.data := by
                rw [toDs_map]
                have e5 : (L1.map fun z => z.2.data) = (L1.map (·.2)).map NestedKey.data := by rw [List.map_map]; rfl
                rw [e5, ek, List.map_map]
                exact List.map_congr_left fun y hy => (toK_data y (hkk y ((sy.2 y).mp hy))).symm
              rw [e4, List.zip_map']
            rw [e3, ← List.map_mergeSort (r := dataLe false fun z : V × NestedKey => z.2.data) (f := fun z : V × NestedKey => (z.1, z.2.data)) (fun _ _ _ _ => rfl), List.map_map]
            rfl
          rw [em]
          exact h ys sy p (rs2.fr np) (.ref p) _ rfl (rs2.newL np (sort_rep ry2)) (ex1.trans (ext1.trans (Ext.newS np)))
      · exact h.elim
    · exact h.elim
end
end PL

/-! Dicts, more: {k: v, ..}, d.update({..}), {k: v for ..}, for k in d. -/
namespace PL
open PySem PySem.Spec PyProof.Rows L2
/-- a dict's keys and values, with v at k -/
def putD (ks xs : List Pv) (k v : Pv) : List Pv × List Pv := if (ks.any fun z => decide (kyP z = kyP k)) = true then (ks, (ks.zip xs).map fun p => if kyP p.1 = kyP k then v else p.2) else (ks ++ [k], xs ++ [v])
def kysOk (ks : List Pv) : Prop := ∀ z ∈ ks, (kyP z).isSome = true
theorem zip_rep {K : PySem.W.Frag} {H : Hp} {S : Sto} {k v : Pv} {key : Key} {w : V} (hk : kyP k = some key) (rv : RepV K H S v w) : ∀ {ks xs : List Pv} {kvs : List (Key × V)}, RepVs K H S ks (kvs.map fun kv => kV kv.1) → RepVs K H S xs (kvs.map (·.2)) → kysOk ks →
    RepVs K H S ks ((kvs.map fun kv => if kv.1 = key then (kv.1, w) else kv).map fun kv => kV kv.1) ∧ RepVs K H S ((ks.zip xs).map fun p => if kyP p.1 = kyP k then v else p.2) ((kvs.map fun kv => if kv.1 = key then (kv.1, w) else kv).map (·.2)) ∧ (kvs.any fun kv => decide (kv.1 = key)) = ks.any fun z => decide (kyP z = kyP k)
  | [], [], [], _, _, _ => ⟨rfl, rfl, rfl⟩
  | [], _ :: _, [], _, ⟨_, _, e, _⟩, _ => by cases e
  | _ :: _, _, [], ⟨_, _, e, _⟩, _, _ => by cases e
  | [], _, _ :: _, e, _, _ => by cases (show _ = [] from e)
  | _ :: _, [], _ :: _, _, e, _ => by cases (show _ = [] from e)
  | k0 :: ks, x0 :: xs, kv :: kvs, ⟨u, r, e, h1, h2⟩, ⟨u', r', e', h1', h2'⟩, hh => by
    rw [List.map_cons] at e e'
    injection e with e1 e2
    injection e' with e1' e2'
    subst e1 e2 e1' e2'
    obtain ⟨c, hc⟩ := Option.isSome_iff_exists.mp (hh k0 List.mem_cons_self)
    have ec : kv.1 = c := kV_inj (kyP_rep hc h1)
    obtain ⟨i1, i2, i3⟩ := zip_rep hk rv h2 h2' fun y hy => hh y (List.mem_cons_of_mem _ hy)
    have ed : decide (kv.1 = key) = decide (kyP k0 = kyP k) := by
      rw [hc, hk, ec]
      exact decide_eq_decide.mpr ⟨fun z => by rw [z], fun z => Option.some.inj z⟩
    refine ⟨?_, ?_, ?_⟩
    · rw [List.map_cons, List.map_cons]
      refine ⟨kV kv.1, _, ?_, h1, i1⟩
      split <;> rfl
    · rw [List.map_cons, List.map_cons, List.zip_cons_cons, List.map_cons]
      by_cases z : kv.1 = key
      · rw [if_pos z, if_pos (by rw [hc, hk, ← ec, z])]
        exact ⟨w, _, rfl, rv, i2⟩
      · rw [if_neg z, if_neg (by rw [hc, hk, ← ec]; exact fun y => z (Option.some.inj y))]
        exact ⟨kv.2, _, rfl, h1', i2⟩
    · rw [List.any_cons, List.any_cons, ed, i3]
theorem put_rep {K : PySem.W.Frag} {H : Hp} {S : Sto} {k v : Pv} {key : Key} {w : V} {ks xs : List Pv} {kvs : List (Key × V)} (hk : kyP k = some key) (rv : RepV K H S v w) (r1 : RepVs K H S ks (kvs.map fun kv => kV kv.1)) (r2 : RepVs K H S xs (kvs.map (·.2))) (ok : kysOk ks) :
    RepVs K H S (putD ks xs k v).1 ((putK kvs key w).map fun kv => kV kv.1) ∧ RepVs K H S (putD ks xs k v).2 ((putK kvs key w).map (·.2)) ∧ kysOk (putD ks xs k v).1 := by
  obtain ⟨i1, i2, i3⟩ := zip_rep hk rv r1 r2 ok
  unfold putD putK
  rw [i3]
  split
  · exact ⟨i1, i2, ok⟩
  · have hkr : RepV K H S k (kV key) := by
      cases k with
      | int i => simp only [kyP, Option.some.injEq] at hk; subst hk; exact rfl
      | str i => simp only [kyP, Option.some.injEq] at hk; subst hk; exact rfl
      | _ => simp [kyP] at hk
    refine ⟨?_, ?_, fun z hz => ?_⟩
    · rw [List.map_append]
      exact r1.app ⟨kV key, [], rfl, hkr, rfl⟩
    · rw [List.map_append]
      exact r2.app ⟨w, [], rfl, rv, rfl⟩
    · rcases List.mem_append.mp hz with hz | hz
      · exact ok z hz
      · rw [List.mem_singleton.mp hz, hk]; rfl
/-- .. several -/
def mgD : List Pv → List Pv → List Pv → List Pv → List Pv × List Pv
  | ks, xs, k :: ms, v :: ys => mgD (putD ks xs k v).1 (putD ks xs k v).2 ms ys
  | ks, xs, _, _ => (ks, xs)
theorem mg_rep {K : PySem.W.Frag} {H : Hp} {S : Sto} : ∀ {ms ys : List Pv} {more : List (Key × V)} {ks xs : List Pv} {kvs : List (Key × V)}, RepVs K H S ms (more.map fun kv => kV kv.1) → RepVs K H S ys (more.map (·.2)) → kysOk ms → RepVs K H S ks (kvs.map fun kv => kV kv.1) → RepVs K H S xs (kvs.map (·.2)) → kysOk ks →
    RepVs K H S (mgD ks xs ms ys).1 ((mergeK kvs more).map fun kv => kV kv.1) ∧ RepVs K H S (mgD ks xs ms ys).2 ((mergeK kvs more).map (·.2)) ∧ kysOk (mgD ks xs ms ys).1
  | [], [], [], _, _, _, _, _, _, r1, r2, ok => ⟨r1, r2, ok⟩
  | [], _ :: _, [], _, _, _, _, ⟨_, _, e, _⟩, _, _, _, _ => by cases e
  | _ :: _, _, [], _, _, _, ⟨_, _, e, _⟩, _, _, _, _, _ => by cases e
  | [], _, _ :: _, _, _, _, e, _, _, _, _, _ => by cases (show _ = [] from e)
  | _ :: _, [], _ :: _, _, _, _, _, e, _, _, _, _ => by cases (show _ = [] from e)
  | k :: ms, v :: ys, kv :: more, ks, xs, kvs, ⟨u, r, e, h1, h2⟩, ⟨u', r', e', h1', h2'⟩, hh, r1, r2, ok => by
    rw [List.map_cons] at e e'
    injection e with e1 e2
    injection e' with e1' e2'
    subst e1 e2 e1' e2'
    obtain ⟨c, hc⟩ := Option.isSome_iff_exists.mp (hh k List.mem_cons_self)
    have ec : kv.1 = c := kV_inj (kyP_rep hc h1)
    subst ec
    obtain ⟨p1, p2, p3⟩ := put_rep hc h1' r1 r2 ok
    show RepVs K H S (mgD (putD ks xs k v).1 (putD ks xs k v).2 ms ys).1 ((mergeK (putK kvs kv.1 kv.2) more).map fun kv => kV kv.1) ∧ _
    exact mg_rep h2 h2' (fun y hy => hh y (List.mem_cons_of_mem _ hy)) p1 p2 p3
section
variable {X : Cx} {S0 : Sto} {H0 : Hp} {a b e : Expr} {fa fb fe : PF} {pos p : Pos} {fs : PFs}
/-! ### d.update(e) -/
def rUpdD : V → List V → Hp → VK → Prop := fun x xs H Q => ∃ (d o : Addr) (kvs more : List (Key × V)), x = V.ref d ∧ xs = [V.ref o] ∧ d ≠ o ∧ H d = some (.dK kvs) ∧ Rd H o (.dK more) ∧ kvs.length + more.length ≤ sizeLine ∧ Q .non (upd H d (.dK (mergeK kvs more)))
theorem mt_updD : MtR X "dict.update" rUpdD := by
  intro pins s σ H x xs v us Q I rx rxs h
  obtain ⟨d, o, kvs, more, rfl, rfl, hdo, e1, e2, hl, q⟩ := h
  cases rx
  rw [Vals.ref1 rxs]
  obtain ⟨z1, hd1, vs1, r1, dd1⟩ := dk_of I.hok e1
  obtain ⟨z2, hd2, vs2, r2, dd2⟩ := dk_rd I.hok e2
  refine call_meetsIn PySem.F.slot_dict_update dd1.typeIs PySem.F.entry_dict_update (PySem.F.args_dict_update_2 _ _) (meets_dict_update (mixKind X.prog X.w) d o hdo hd2) ⟨vs1, vs2, dd1, dd2, by rw [← r1.length, ← r2.length]; exact hl, fun h' n1 n2 sb => ?_⟩
  have he : ∃ q, h'.get? d = some q := let ⟨q, _, _, hq, _⟩ := n1; ⟨q, hq⟩
  have hz : (mergeK kvs more).length ≤ sizeLine := Nat.le_trans (length_mergeK more kvs) hl
  exact ⟨.non, _, d_write (t' := s.toks) I (by rw [e1]; exact True.intro) sb he (dk_new hz hd1 (r2.merge r1) n1), rfl, q⟩
def ckD (S : Sto) (x : Pv) : Bool := match x with
  | .ref a => (match S a with | some (.dct _ _) => true | _ => false)
  | _ => false
theorem ckD_ty {K : PySem.W.Frag} {H : Hp} {S : Sto} (rs : RepS K H S) {x : Pv} {v : V} (r : RepV K H S x v) (h : ckD S x = true) : tyV K "dict" v H := by
  cases x with
  | ref a =>
    have e1 : v = .ref a := r
    subst e1
    simp only [ckD] at h
    split at h
    · rename_i ks xs e2
      obtain ⟨kvs, e3, _, _⟩ := rs a _ e2
      exact .inr (.inr (.inl ⟨rfl, .inl ⟨kvs, e3⟩⟩))
    · cases h
  | _ => cases h
def oUpdD (x : Pv) (ps : List Pv) (S : Sto) (Q : QV) : Prop := match x, ps with
  | .ref a, [.dct ms ys] => (match S a with
    | some (.dct ks xs) => kysOk ks ∧ kysOk ms ∧ ks.length + ms.length ≤ sizeLine ∧ Q .non (put S a (.dct (mgD ks xs ms ys).1 (mgD ks xs ms ys).2))
    | _ => False)
  | _, _ => False
theorem pv_updD {e : Expr} {fs : PFs} {apos cpos : Pos} (ha : PV X S0 H0 a fa) (hb : PVs X S0 H0 [e] fs) (hbase : attributeBase a "update" X.env (eval a X.env) = eval a X.env := by rfl)
    (hfew : ((backTo cpos (starEach [e] X.env)).all (fun x => !x.1) && (backToKw cpos (keywordEach [] X.env)).all (fun x => x.1.isSome) && decide ([e].length + ([] : List Keyword).length + (if ([] : List Keyword).isEmpty then 0 else 1) < 30)) = true := by rfl)
    (hline : (apos.endLine == cpos.line) = true := by rfl) (hs : starEach [e] X.env = (false, eval e X.env) :: starEach [] X.env := by rfl) (hplain : (backTo cpos (starEach [] X.env)).any (·.1) = false := by rfl) :
    PV X S0 H0 (.Call (.Attribute a "update" apos) [e] [] cpos) (fMeth ckD oUpdD fa fs) := by
  have m : ∀ x ps S Q Q', (∀ p S', Q p S' → Q' p S') → oUpdD x ps S Q → oUpdD x ps S Q' := fun x ps S Q Q' i q => by
    unfold oUpdD at q ⊢
    split at q
    · split at q
      · exact ⟨q.1, q.2.1, q.2.2.1, i _ _ q.2.2.2⟩
      · exact q
    · exact q
  refine ⟨fMeth_mono m ha hb, PE.imp (pe_bm PySem.F.plainAttrs_dict PySem.F.slot_dict_update PySem.F.type_dict_update mt_updD ha.pe hb.pa hbase hfew hline hs hplain) fun σ H Q h => lift_meth (fun S x v H rs r h => ckD_ty rs r h) (fun x ps S Qp v vs H Q rv rvs rs h k => ?_) ha hb h⟩
  unfold oUpdD at h
  split at h
  · rename_i a ms ys
    split at h
    · rename_i ks xs e1
      obtain ⟨h1, h2, h3, h⟩ := h
      obtain ⟨pv, rfl, rp⟩ := rvs.one
      obtain ⟨kvs, e2, r1, r2⟩ := rs a _ e1
      obtain ⟨o, more, e3, hr, ho, q1, q2⟩ := rp
      have l1 : kvs.length = ks.length := by have := r1.len; rwa [List.length_map] at this
      have l2 : more.length = ms.length := by have := q1.len; rwa [List.length_map] at this
      obtain ⟨m1, m2, m3⟩ := mg_rep q1 q2 h2 r1 r2 h1
      refine ⟨a, o, kvs, more, rv, by rw [e3], (fun z => by rw [← z, e1] at ho; cases ho), e2, hr, by omega, ?_⟩
      exact k _ _ _ _ h rfl (rs.chgD e1 m1 m2) (Ext.chg e1)
    · exact h.elim
  · exact h.elim
/-! ### for k in d: d is not changed any more -/
def iKeysL (td : TE) : TI := fun σ H R => td σ H fun x H1 => ∃ (d : Addr) (kvs : List (Key × V)), x = .ref d ∧ H1 d = some (.dK kvs) ∧ ∀ o, R (Itk d o kvs) (upd H1 d (.frz o (.dK kvs)))
theorem pi_keysL {tg e : Expr} {td : TE} (he : PE X e td) : PI X tg e (iKeysL td) := by
  refine ⟨fun pins s σ H R I h => ?_⟩
  refine thn (he.run pins s σ H _ I h) fun u s1 ⟨x, H1, I1, rx, d, kvs, ex, hd, q⟩ => ?_
  subst ex
  obtain rfl : u = Value.ref d := rx
  obtain ⟨od, I2⟩ := I1.lock hd True.intro
  have hd2 : upd H1 d (.frz od (.dK kvs)) d = some (.frz od (.dK kvs)) := upd_same
  obtain ⟨hs, hgd, hx, es, ep, vs, hdt, hsz, kv, hm⟩ := I2.frzK hd2
  refine iter_keys hs hgd hx hdt (pi_one (tk := s1.toks) I2 _ (turn_keys _ hdt) ⟨_, Heap.get?_push_size _ rfl, rfl, ?_⟩ (q od))
  rw [hsz] <;> rfl
def fKeys (f : PF) : PFI := fun ρ S Q => f ρ S fun p S1 => match p with
  | .ref a => (match S1 a with | some (.dct ks _) => kysOk ks ∧ Q ks tru (del S1 a) | _ => False)
  | _ => False
theorem key_self {K : PySem.W.Frag} {H : Hp} {S : Sto} {k : Pv} {key : Key} (hk : kyP k = some key) : RepV K H S k (kV key) := by
  cases k with
  | int i => simp only [kyP, Option.some.injEq] at hk; subst hk; exact rfl
  | str i => simp only [kyP, Option.some.injEq] at hk; subst hk; exact rfl
  | _ => simp [kyP] at hk
theorem pit_keys {tg : Expr} (h : PV X S0 H0 a fa) : PIt X S0 H0 tg a (fKeys fa) := by
  refine ⟨fun ρ S Q Q' i q => h.mono _ _ _ _ (fun p S1 q => ?_) q, PI.imp (pi_keysL h.pe) fun σ H R ⟨ρ, S, re, rs, ex, q⟩ => ?_⟩
  · split at q
    · split at q
      · exact ⟨q.1, i _ _ _ q.2⟩
      · exact q
    · exact q
  · refine ⟨ρ, S, re, rs, ex, h.mono _ _ _ _ (fun p S1 q v H1 rv rs1 ex1 => ?_) q⟩
    cases p with
    | ref d =>
      have q : (match S1 d with | some (.dct ks _) => kysOk ks ∧ _ | _ => False) := q
      split at q
      · rename_i ks xs e1
        obtain ⟨ok, q⟩ := q
        obtain ⟨kvs, e2, r1, r2⟩ := rs1 d _ e1
        refine ⟨d, kvs, rv, e2, fun o => ?_⟩
        have ek := keys_rep r1 ok
        have exd : Ext S1 H1 (del S1 d) (upd H1 d (.frz o (.dK kvs))) := ⟨fun x u hx hs => by rw [upd_ne (by rintro rfl; rw [e1] at hs; cases hs)]; exact hx, fun x hx => by
          by_cases z : x = d
          · subst z; simp at hx
          · rw [del_ne z] at hx; exact .inl hx⟩
        have rsd : RepS X.K (upd H1 d (.frz o (.dK kvs))) (del S1 d) := fun x m hx => by
          by_cases z : x = d
          · subst z; simp at hx
          · rw [del_ne z] at hx
            have q0 := rs1 x m hx
            cases m with
            | lst ys => obtain ⟨us, e1, r⟩ := q0; exact ⟨us, by rw [upd_ne z]; exact e1, RepVs.ext rs1 exd _ _ r⟩
            | dct ks ys => obtain ⟨us, e1, r, r'⟩ := q0; exact ⟨us, by rw [upd_ne z]; exact e1, RepVs.ext rs1 exd _ _ r, RepVs.ext rs1 exd _ _ r'⟩
            | tab n => exact tab_ext rs1 exd q0 (by rw [upd_ne z])
            | exc C => obtain ⟨oe, e1, r⟩ := q0; exact ⟨oe, by rw [upd_ne z]; exact e1, r⟩
            | lck o' kvs' => exact (upd_ne z).trans q0
        refine q (Itk d o kvs) _ ?_ rsd (ex1.trans exd)
        have hkeep : ∀ S' H', Ext (del S1 d) (upd H1 d (.frz o (.dK kvs))) S' H' → H' d = some (.frz o (.dK kvs)) := fun S' H' e => e.keep d _ upd_same (by simp)
        have hlen : kvs.length = ks.length := by have := r1.len; rwa [List.length_map] at this
        refine ⟨fun S' H' i x e rs' g hx => ?_, fun S' H' e rs' g => ⟨hkeep S' H' e, by omega⟩⟩
        have hi : i < ks.length := (List.getElem?_eq_some_iff.mp hx).1
        refine ⟨⟨hkeep S' H' e, by omega⟩, fun v H'' y => ?_⟩
        obtain ⟨rfl, k, w, hkv, rfl⟩ := y
        have e9 : (ks.map kyP)[i]? = (kvs.map fun kv => some kv.1)[i]? := by rw [ek]
        rw [List.getElem?_map, List.getElem?_map, hx, hkv] at e9
        have e9 : kyP x = some k := Option.some.inj e9
        exact ⟨key_self e9, rs', Ext.refl _ _⟩
      · exact q.elim
    | _ => exact q.elim
end
end PL

/-! {k: v, ..} that is changed later; {k: v for ..}. -/
namespace PL
open PySem PySem.Spec PyProof.Rows L2
def flatV : List (V × V) → List V
  | [] => []
  | p :: ps => p.1 :: p.2 :: flatV ps
def flatP : List (Pv × Pv) → List Pv
  | [] => []
  | p :: ps => p.1 :: p.2 :: flatP ps
def liftD (K : PySem.W.Frag) (S0 : Sto) (H0 : Hp) (fs : PFs) (σ : L2.St) (H : Hp) (Q : List (V × V) → Hp → Prop) : Prop := ∃ ρ S, RepE K H S σ ρ ∧ RepS K H S ∧ Ext S0 H0 S H ∧ fs ρ S fun ps S' => ∀ vs H', RepVs K H' S' ps (flatV vs) → RepS K H' S' → Ext S H S' H' → Q vs H'
structure PDs (X : Cx) (S0 : Sto) (H0 : Hp) (pos : Pos) (keys : List (Option Expr)) (values : List Expr) (fs : PFs) : Prop where
  mono : ∀ ρ S Q Q', (∀ p S', Q p S' → Q' p S') → fs ρ S Q → fs ρ S Q'
  pps : ∃ trs, PPs X pos keys values trs ∧ ∀ σ H Q, liftD X.K S0 H0 fs σ H Q → tPairs trs σ H Q
section
variable {X : Cx} {S0 : Sto} {H0 : Hp} {k v : Expr} {fk fv : PF} {pos : Pos} {fs : PFs} {keys : List (Option Expr)} {values : List Expr}
theorem pds_nil : PDs X S0 H0 pos [] [] fNil := ⟨fun _ _ _ _ h q => h _ _ q, [], pps_nil, fun σ H Q ⟨ρ, S, re, rs, ex, q⟩ => q [] H rfl rs (Ext.refl S H)⟩
theorem pds_cons (hk : PV X S0 H0 k fk) (hv : PV X S0 H0 v fv) (hr : PDs X S0 H0 pos keys values fs) : PDs X S0 H0 pos (some k :: keys) (v :: values) (fCons fk (fCons fv fs)) := by
  obtain ⟨trs, pp, sim⟩ := hr.pps
  refine ⟨fun ρ S Q Q' h q => hk.mono _ _ _ _ (fun p S1 q => hv.mono _ _ _ _ (fun p' S2 q => hr.mono _ _ _ _ (fun ps S3 q => h _ _ q) q) q) q, _, pps_cons hk.pe hv.pe pp, fun σ H Q ⟨ρ, S, re, rs, ex, q⟩ => ?_⟩
  refine ⟨ρ, S, re, rs, ex, hk.mono _ _ _ _ (fun p S1 q x H1 rx rs1 ex1 => ?_) q⟩
  refine ⟨ρ, S1, re.ext rs ex1, rs1, ex.trans ex1, hv.mono _ _ _ _ (fun p' S2 q y H2 ry rs2 ex2 => ?_) q⟩
  have e2 := ex1.trans ex2
  refine sim σ H2 _ ⟨ρ, S2, re.ext rs e2, rs2, ex.trans e2, hr.mono _ _ _ _ (fun ps S3 q vs H3 rv rs3 ex3 => ?_) q⟩
  exact q ((x, y) :: vs) H3 ⟨x, y :: flatV vs, rfl, RepV.ext rs1 (ex2.trans ex3) p x rx, y, flatV vs, rfl, RepV.ext rs2 ex3 p' y ry, rv⟩ rs3 (e2.trans ex3)
def fDispT (fs : PFs) : PF := fun ρ S Q => ∀ D, S D = none → fs ρ (put S D (.dct [] [])) fun ps S2 => S2 D = some (.dct [] []) ∧ ∃ ts : List (Pv × Pv), ps = flatP ts ∧ kysOk (ts.map (·.1)) ∧ ts.length ≤ 15 ∧ Q (.ref D) (put S2 D (.dct (mgD [] [] (ts.map (·.1)) (ts.map (·.2))).1 (mgD [] [] (ts.map (·.1)) (ts.map (·.2))).2))
theorem flat_rep {K : PySem.W.Frag} {H : Hp} {S : Sto} : ∀ {ts : List (Pv × Pv)} {vs : List (V × V)}, RepVs K H S (flatP ts) (flatV vs) → kysOk (ts.map (·.1)) → ∃ kvs : List (Key × V), vs = kvs.map (fun kv => (kV kv.1, kv.2)) ∧ kvs.length = ts.length ∧ RepVs K H S (ts.map (·.1)) (kvs.map fun kv => kV kv.1) ∧ RepVs K H S (ts.map (·.2)) (kvs.map (·.2))
  | [], [], _, _ => ⟨[], rfl, rfl, rfl, rfl⟩
  | [], _ :: _, e, _ => by cases (show _ = [] from e)
  | _ :: _, [], ⟨_, _, e, _⟩, _ => by cases e
  | t :: ts, p :: vs, ⟨u, r, e, h1, u2, r2, e2, h2, h3⟩, hk => by
    injection e with e1 e3
    subst e1 e3
    injection e2 with e4 e5
    subst e4 e5
    obtain ⟨c, hc⟩ := Option.isSome_iff_exists.mp (hk t.1 List.mem_cons_self)
    have ec := kyP_rep hc h1
    obtain ⟨kvs, a1, a2, a3, a4⟩ := flat_rep h3 fun y hy => hk y (List.mem_cons_of_mem _ hy)
    refine ⟨(c, p.2) :: kvs, ?_, by rw [List.length_cons, List.length_cons, a2], ⟨kV c, _, rfl, by rw [← ec]; exact h1, a3⟩, ⟨p.2, _, rfl, h2, a4⟩⟩
    rw [List.map_cons, ← a1, ← ec]
theorem RepS.newD {K : PySem.W.Frag} {S : Sto} {H : Hp} {d : Addr} (rs : RepS K H S) (nd : H d = none) : RepS K (upd H d (.dK [])) (put S d (.dct [] [])) := fun x m hx => by
  have ee : Ext S H (put S d (.dct [] [])) (upd H d (.dK [])) := Ext.newS nd
  by_cases z : x = d
  · subst z
    rw [put_same] at hx; cases hx
    exact ⟨[], upd_same, rfl, rfl⟩
  · rw [put_ne z] at hx
    have q0 := rs x m hx
    cases m with
    | lst ys => obtain ⟨us, e1, r⟩ := q0; exact ⟨us, by rw [upd_ne z]; exact e1, RepVs.ext rs ee _ _ r⟩
    | dct ks ys => obtain ⟨us, e1, r, r'⟩ := q0; exact ⟨us, by rw [upd_ne z]; exact e1, RepVs.ext rs ee _ _ r, RepVs.ext rs ee _ _ r'⟩
    | tab n => exact tab_ext rs ee q0 (by rw [upd_ne z])
    | exc C => obtain ⟨oe, e1, r⟩ := q0; exact ⟨oe, by rw [upd_ne z]; exact e1, r⟩
    | lck o kvs => exact (upd_ne z).trans q0
theorem pv_dispT (h : PDs X S0 H0 pos keys values fs) (hall : keys.all (·.isSome) = true := by rfl) (hl : keys.length = values.length := by rfl) (h0 : keys ≠ [] := by intro z; cases z) (h15 : keys.length ≤ 15 := by decide) : PV X S0 H0 (.Dict keys values pos) (fDispT fs) := by
  obtain ⟨trs, pp, sim⟩ := h.pps
  refine ⟨fun ρ S Q Q' i q D hD => h.mono _ _ _ _ (fun ps S2 ⟨q1, ts, q2, q3, q4, q5⟩ => ⟨q1, ts, q2, q3, q4, i _ _ q5⟩) (q D hD), PE.imp (pe_disp pp hall hl h0 h15) fun σ H Q ⟨ρ, S, re, rs, ex, q⟩ d nd => ?_⟩
  have ee : Ext S H (put S d (.dct [] [])) (upd H d (.dK [])) := Ext.newS nd
  have rs1 := rs.newD nd
  refine sim σ _ _ ⟨ρ, _, re.ext rs ee, rs1, ex.trans ee, h.mono _ _ _ _ (fun ps S2 ⟨q1, ts, q2, q3, q4, q5⟩ vs H2 rv rs2 ex2 => ?_) (q d (rs.fr nd))⟩
  subst q2
  obtain ⟨kvs, a1, a2, a3, a4⟩ := flat_rep rv q3
  obtain ⟨kv0, e0, z1, z2⟩ := rs2 d _ q1
  have e00 : kv0 = [] := by
    have := z1.len
    rw [List.length_map] at this
    exact List.length_eq_zero_iff.mp this
  subst e00
  obtain ⟨m1, m2, m3⟩ := mg_rep (ks := []) (xs := []) (kvs := []) a3 a4 q3 rfl rfl (fun z hz => (by cases hz))
  refine ⟨e0, kvs, a1, by omega, ?_⟩
  exact q5 (.ref d) _ rfl (rs2.chgD q1 m1 m2) ((ee.trans ex2).trans (Ext.chg q1))
end
/-! ### {k: v for ..} -/
def dcW (gd : Sto → Prop) (t : Tg) (tt : PFB) (tk tv : PF) (ρ : Env') (D : Addr) (Q : List Pv → List Pv → Sto → Prop) : List Pv → List Pv → List Pv → Sto → Prop
  | [], ks, xs, S => gd (put S D (.dct ks xs)) ∧ Q ks xs S
  | x :: its, ks, xs, S => gd (put S D (.dct ks xs)) ∧ match bindT (put S D (.dct ks xs)) t x ρ with
    | some ρ2 => tt ρ2 (put S D (.dct ks xs)) fun c S2 =>
        cnd c (tk ρ2 S2 fun k S3 => tv ρ2 S3 fun v S4 => S4 D = some (.dct ks xs) ∧ (kyP k).isSome = true ∧ ks.length < sizeLine ∧ dcW gd t tt tk tv ρ D Q its (putD ks xs k v).1 (putD ks xs k v).2 (del S4 D))
          (S2 D = some (.dct ks xs) ∧ dcW gd t tt tk tv ρ D Q its ks xs (del S2 D))
    | none => False
theorem dcW_mono {gd : Sto → Prop} {t : Tg} {tt : PFB} {tk tv : PF} {ρ : Env'} {D : Addr} (h1 : ∀ ρ S Q Q', (∀ p S', Q p S' → Q' p S') → tt ρ S Q → tt ρ S Q') (h2 : ∀ ρ S Q Q', (∀ p S', Q p S' → Q' p S') → tk ρ S Q → tk ρ S Q') (h3 : ∀ ρ S Q Q', (∀ p S', Q p S' → Q' p S') → tv ρ S Q → tv ρ S Q') {Q Q' : List Pv → List Pv → Sto → Prop} (i : ∀ ks xs S', Q ks xs S' → Q' ks xs S') :
    ∀ (its ks xs : List Pv) (S : Sto), dcW gd t tt tk tv ρ D Q its ks xs S → dcW gd t tt tk tv ρ D Q' its ks xs S
  | [], ks, xs, S, q => ⟨q.1, i _ _ _ q.2⟩
  | x :: its, ks, xs, S, q => by
    refine ⟨q.1, ?_⟩
    have q2 := q.2
    split at q2
    · refine h1 _ _ _ _ (fun c S2 q => ?_) q2
      cases c with
      | true => exact h2 _ _ _ _ (fun k S3 q => h3 _ _ _ _ (fun v S4 q => ⟨q.1, q.2.1, q.2.2.1, dcW_mono h1 h2 h3 i its _ _ _ q.2.2.2⟩) q) q
      | false => exact ⟨q.1, dcW_mono h1 h2 h3 i its _ _ _ q.2⟩
    · exact q2.elim
def fDc (fi : PFI) (t : Tg) (tt : PFB) (tk tv : PF) (vs : List Nat) : PF := fun ρ S Q => fi ρ S fun its gd S1 => ∀ D, S1 D = none → dcW gd t tt tk tv (wipeP ρ vs) D (fun ks xs S' => Q (.dct ks xs) S') its [] [] S1
section
variable {X : Cx} {S0 : Sto} {H0 : Hp} {pos : Pos}
theorem dc_sim {fi : PFI} {t : Tg} {tt : PFB} {tk tv : PF} {vs : List Nat} {tg iter : Expr} (hi : PIt X S0 H0 tg iter fi) (hv : ∀ i ∈ slotsT t, i ∈ vs) (m1 : ∀ ρ S Q Q', (∀ p S', Q p S' → Q' p S') → tt ρ S Q → tt ρ S Q') (m2 : ∀ ρ S Q Q', (∀ p S', Q p S' → Q' p S') → tk ρ S Q → tk ρ S Q') (m3 : ∀ ρ S Q Q', (∀ p S', Q p S' → Q' p S') → tv ρ S Q → tv ρ S Q')
    {σ : L2.St} {H : Hp} {Q : VK} {ρ : Env'} {S : Sto} {F : Addr → List Pv → List Pv → Sto → Prop} (re : RepE X.K H S σ ρ) (rs : RepS X.K H S) (ex : Ext S0 H0 S H) (q : fi ρ S fun its gd S1 => ∀ D, S1 D = none → dcW gd t tt tk tv (wipeP ρ vs) D (F D) its [] [] S1)
    (fin : ∀ D ks xs S' H', F D ks xs S' → S' D = none → RepS X.K H' (put S' D (.dct ks xs)) → Ext S H (put S' D (.dct ks xs)) H' → Q (.ref D) H') :
    tDc (liftI X.K S0 H0 fi) (tgR X.K t) (liftB X.K S0 H0 tt) (lift X.K S0 H0 tk) (lift X.K S0 H0 tv) vs σ H Q := by
  refine ⟨ρ, S, re, rs, ex, hi.mono _ _ _ _ (fun its gd S1 q J H1 w rs1 ex1 => ?_) q⟩
  intro D hD
  have q := q D (rs1.fr hD)
  refine ⟨fun i m H2 => i + m = its.length ∧ ∃ ks xs S2, kysOk ks ∧ S2 D = none ∧ RepS X.K H2 (put S2 D (.dct ks xs)) ∧ Ext S1 H1 (put S2 D (.dct ks xs)) H2 ∧ dcW gd t tt tk tv (wipeP ρ vs) D (F D) (its.drop i) ks xs S2,
    ⟨its.length, by omega, [], [], S1, fun z hz => (by cases hz), rs1.fr hD, rs1.newD hD, Ext.newS hD, by rw [List.drop_zero]; exact q⟩, fun i m H2 hW => ?_⟩
  obtain ⟨em, ks, xs, S2, ok, n2, rs2, ex2, q2⟩ := hW
  cases hd : its.drop i with
  | nil =>
    rw [hd] at q2
    have hil : its.length ≤ i := by
      have := congrArg List.length hd
      simp at this
      omega
    have e0 : i = its.length := by omega
    subst e0
    exact .inl ⟨w.stop _ H2 ex2 rs2 q2.1, fin D ks xs S2 H2 q2.2 n2 rs2 (ex1.trans ex2)⟩
  | cons x rest =>
    rw [hd] at q2
    have hil : i < its.length := by
      have := congrArg List.length hd
      simp at this
      omega
    have hx : its[i]? = some x := by
      have := congrArg (fun l => l[0]?) hd
      simpa using this
    have hxs : its.drop (i + 1) = rest := by
      have := congrArg (List.drop 1) hd
      simpa [Nat.add_comm] using this
    obtain ⟨hgo, hy⟩ := w.go _ H2 i x ex2 rs2 q2.1 hx
    refine .inr ⟨hgo, fun H3 => ∃ ks xs S3, kysOk ks ∧ S3 D = none ∧ RepS X.K H3 (put S3 D (.dct ks xs)) ∧ Ext S1 H1 (put S3 D (.dct ks xs)) H3 ∧ dcW gd t tt tk tv (wipeP ρ vs) D (F D) rest ks xs S3, fun H3 ⟨ks', xs', S3, a0, a1, a2, a3, a4⟩ => ⟨m - 1, by omega, by omega, ks', xs', S3, a0, a1, a2, a3, by rw [hxs]; exact a4⟩, fun v H3 yl => ?_⟩
    obtain ⟨rv, rs3, ex3⟩ := hy v H3 yl
    have q3 := q2.2
    split at q3
    · rename_i ρ' eb
      have e13 := ex2.trans ex3
      have re3 : RepE X.K H3 (put S2 D (.dct ks xs)) (L2.wipe σ vs) (wipeP ρ vs) := (re.ext rs (ex1.trans e13)).wipe vs
      refine tg_run rs3 t x v (L2.wipe σ vs) (wipeP ρ vs) ρ' _ rv re3 eb fun σ4 re4 w4 => ⟨by rw [w4 vs hv]; exact wipe_wipe σ vs vs fun i h => h, ?_⟩
      have e03 := (ex.trans ex1).trans e13
      refine ⟨ρ', _, re4, rs3, e03, m1 _ _ _ _ (fun c S5 q5 H5 rs5 ex5 => ?_) q3⟩
      have e15 := e13.trans ex5
      cases c with
      | true =>
        refine ⟨ρ', S5, re4.ext rs3 ex5, rs5, e03.trans ex5, m2 _ _ _ _ (fun k S6 q6 kv H6 rk rs6 ex6 => ?_) q5⟩
        have e56 := ex5.trans ex6
        refine ⟨ρ', S6, re4.ext rs3 e56, rs6, e03.trans e56, m3 _ _ _ _ (fun y S7 q7 yv H7 ry rs7 ex7 => ?_) q6⟩
        obtain ⟨h1, h2, h3, h4⟩ := q7
        obtain ⟨key, hk⟩ := Option.isSome_iff_exists.mp h2
        obtain ⟨kvs, hkv, r1, r2⟩ := rs7 D _ h1
        have hl : kvs.length = ks.length := by have := r1.len; rwa [List.length_map] at this
        obtain ⟨p1, p2, p3⟩ := put_rep hk ry r1 r2 ok
        refine ⟨kvs, key, kyP_rep hk rk, hkv, by omega, (putD ks xs k y).1, (putD ks xs k y).2, del S7 D, p3, by simp, ?_, ?_, h4⟩
        · rw [put_del]
          exact rs7.chgD h1 p1 p2
        · rw [put_del]
          exact ((e15.trans ex6).trans ex7).trans (Ext.chg h1)
      | false =>
        obtain ⟨h1, h2⟩ := q5
        refine ⟨ks, xs, del S5 D, ok, by simp, ?_, ?_, h2⟩
        · rw [put_del, put_self h1]; exact rs5
        · rw [put_del, put_self h1]; exact e15
    · exact q3.elim
variable {kx vx tg iter : Expr} {ifs : List Expr} {scope : Scope} {fi : PFI} {t : Tg} {tt : PFB} {tk tv : PF}
theorem pv_dc (own : List (Str × Nat)) (hc : X.calm = true) (hN : X.N.Nodup) (hi : PIt X S0 H0 tg iter fi) (ok : BlkOk X.N X.env.scope scope own) (hg : Blk X scope fun Y => PG Y tg (tgR X.K t)) (ht : Blk X scope fun Y => PBs Y S0 H0 ifs tt) (hk : Blk X scope fun Y => PV Y S0 H0 kx tk) (he : Blk X scope fun Y => PV Y S0 H0 vx tv)
    (hv : ∀ i ∈ slotsT t, i ∈ own.map (·.2) := by decide) (hs : ∀ x, foldedSetIterable iter X.env x = pure x := by intro _; rfl) : PV X S0 H0 (.DictComp kx vx [⟨tg, iter, ifs, 0⟩] scope pos) (fDc fi t tt tk tv (own.map (·.2))) := by
  have m1 := (ht X.s_0 X.H_0 0 [] []).mono
  have m2 := (hk X.s_0 X.H_0 0 [] []).mono
  have m3 := (he X.s_0 X.H_0 0 [] []).mono
  refine ⟨fun ρ S Q Q' i q => hi.mono _ _ _ _ (fun its gd S1 q D hD => dcW_mono m1 m2 m3 (fun _ _ _ q => i _ _ q) its [] [] S1 (q D hD)) q, PE.imp (pe_dc (tk := lift X.K S0 H0 tk) (tv := lift X.K S0 H0 tv) (tt := liftB X.K S0 H0 tt) hc hN hi.pi ok hg (fun s H C cl fp => (ht s H C cl fp).pts) (fun s H C cl fp => (hk s H C cl fp).pe) (fun s H C cl fp => (he s H C cl fp).pe) hs) fun σ H Q ⟨ρ, S, re, rs, ex, q⟩ => ?_⟩
  refine dc_sim hi hv m1 m2 m3 re rs ex q fun D ks xs S' H' g hn rs' e' => ?_
  obtain ⟨kvs, e1, r1, r2⟩ := rs' D _ put_same
  have sb : Sub S' (put S' D (.dct ks xs)) := Sub.put hn
  exact g (.ref D) H' ⟨D, kvs, rfl, .inl e1, hn, r1.sub sb, r2.sub sb⟩ (rs'.sub sb) (e'.sub sb)
end
/-- nothing changed by the items -/
theorem dcW_pure {α : Type} {gd : Sto → Prop} {t : Tg} {tk tv : PF} {ρ : Env'} {D : Addr} {Q : List Pv → List Pv → Sto → Prop} {S : Sto} (g kf vf : α → Pv) (hD : S D = none) (hg : ∀ S', gd S') : ∀ (as : List α) (ks xs : List Pv), ks.length + as.length ≤ sizeLine →
    (∀ x ∈ as, (kyP (kf x)).isSome = true ∧ ∀ S', (∀ b m, S b = some m → S' b = some m) → ∃ ρ2, bindT S' t (g x) ρ = some ρ2 ∧ (∀ k : QV, k (kf x) S' → tk ρ2 S' k) ∧ ∀ k : QV, k (vf x) S' → tv ρ2 S' k) →
    Q (mgD ks xs (as.map kf) (as.map vf)).1 (mgD ks xs (as.map kf) (as.map vf)).2 S → dcW gd t fYes tk tv ρ D Q (as.map g) ks xs S
  | [], ks, xs, _, _, q => ⟨hg _, q⟩
  | x :: as, ks, xs, l, h, q => by
    refine ⟨hg _, ?_⟩
    obtain ⟨hk, hx⟩ := h x List.mem_cons_self
    obtain ⟨ρ2, e, h1, h2⟩ := hx (put S D (.dct ks xs)) fun b n e => by rw [put_ne (fun z => by rw [z, hD] at e; cases e)]; exact e
    rw [e]
    have l' : ks.length + (as.length + 1) ≤ sizeLine := l
    refine h1 _ (h2 _ ⟨put_same, hk, by omega, ?_⟩)
    rw [del_put hD]
    refine dcW_pure g kf vf hD hg as _ _ ?_ (fun y hy => h y (List.mem_cons_of_mem _ hy)) q
    unfold putD
    split
    · show ks.length + as.length ≤ _
      omega
    · show (ks ++ [kf x]).length + as.length ≤ _
      rw [List.length_append, List.length_singleton]
      omega
end PL

/-! Tellings in their order; all instants of a telling: plain. -/
namespace PL
open PySem PySem.Spec PyProof.Rows L2
open PySem.W (dataLe dataLt alike AllAlike EachIs)
theorem lt_sh (a b : Int) : dataLt (toD (shP3 a)) (toD (shP3 b)) = decide (a < b) := by
  have fa := fd a
  have fb := fd b
  have ga := fd (a.fmod 1440)
  have gb := fd (b.fmod 1440)
  show dataLt (.tuple [.int (a.fdiv 1440), .int ((a.fmod 1440).fdiv 60), .int (a.fmod 60)]) (.tuple [.int (b.fdiv 1440), .int ((b.fmod 1440).fdiv 60), .int (b.fmod 60)]) = _
  rw [PySem.W.dataLt_tuple, PySem.W.dataLt_cons (by simp [alike]), PySem.W.dataLt_cons (by simp [alike]), PySem.W.dataLt_cons (by simp [alike]), PySem.W.dataLt_int, PySem.W.dataLt_int, PySem.W.dataLt_int]
  have e : PyProof.Rows.lexLt itemOrd (PySem.W.keyToksAll []) (PySem.W.keyToksAll []) = false := lex_irrefl _
  rw [e, ga.2.1, gb.2.1, fa.1, fb.1, fa.2.2.1, fb.2.2.1, fa.2.2.2.1, fb.2.2.2.1]
  simp only [PyData.eqv, beq_iff_eq]
  by_cases h1 : a / 1440 = b / 1440
  · rw [if_pos h1]
    by_cases h2 : a % 1440 / 60 = b % 1440 / 60
    · rw [if_pos h2]
      by_cases h3 : a % 60 = b % 60
      · rw [if_pos h3]
        exact (decide_eq_false (by omega)).symm
      · rw [if_neg h3]
        exact decide_eq_decide.mpr (by omega)
    · rw [if_neg h2]
      exact decide_eq_decide.mpr (by omega)
  · rw [if_neg h1]
    exact decide_eq_decide.mpr (by omega)
theorem sort3 (ns : List Int) : sortP (ns.map shP3) = (sortI ns).map shP3 := by
  unfold sortP sortI
  rw [List.map_mergeSort (s := dataLe false toD) (f := shP3)]
  intro a _ b _
  show decide (a ≤ b) = !dataLt (toD (shP3 b)) (toD (shP3 a))
  rw [lt_sh]
  by_cases h : a ≤ b
  · rw [decide_eq_true h, decide_eq_false (by omega)]; rfl
  · rw [decide_eq_false h, decide_eq_true (by omega)]; rfl
theorem shP3_inj {a b : Int} (h : shP3 a = shP3 b) : a = b := by
  have h1 := lt_sh a b
  have h2 := lt_sh b a
  rw [h] at h1 h2
  have e : dataLt (toD (shP3 b)) (toD (shP3 b)) = false := by rw [lt_sh]; exact decide_eq_false (by omega)
  rw [e] at h1 h2
  have := of_decide_eq_false h1.symm
  have := of_decide_eq_false h2.symm
  omega
theorem alike3 (ns : List Int) : AllAlike ((ns.map shP3).map toD) ∧ PySem.W.Sortable ((ns.map shP3).map toD) := by
  refine ⟨?_, .inl ?_⟩
  · intro d hd d' hd'
    simp only [List.map_map, List.mem_map, Function.comp_apply] at hd hd'
    obtain ⟨x, _, rfl⟩ := hd
    obtain ⟨y, _, rfl⟩ := hd'
    rfl
  · intro d hd
    simp only [List.map_map, List.mem_map, Function.comp_apply] at hd
    obtain ⟨x, _, rfl⟩ := hd
    exact ⟨_, _, rfl⟩
theorem setOk3 {ns : List Int} (h : ns.length < 75) : setOk (ns.map shP3) := by
  refine ⟨⟨true, fun x hx => ?_⟩, ns.map shP3, by rw [List.length_map]; exact h, fun x hx => hx⟩
  obtain ⟨i, _, rfl⟩ := List.mem_map.mp hx
  exact ⟨rfl, rfl, show (1 : Nat) ≤ 8 by decide⟩
/-! ### whole numbers as keys -/
def putI (is : List Int) (i : Int) : List Int := if i ∈ is then is else is ++ [i]
theorem putD_int (is : List Int) (xs : List Pv) (i : Int) (v : Pv) : (putD (is.map .int) xs (.int i) v).1 = (putI is i).map .int := by
  unfold putD putI
  have e : ((is.map Pv.int).any fun z => decide (kyP z = kyP (.int i))) = decide (i ∈ is) := by
    rw [List.any_map, Bool.eq_iff_iff, List.any_eq_true, decide_eq_true_eq]
    constructor
    · rintro ⟨x, hx, h⟩
      have h : kyP (.int x) = kyP (.int i) := of_decide_eq_true h
      have : x = i := by simpa [kyP] using h
      rw [← this]; exact hx
    · intro h
      exact ⟨i, h, decide_eq_true rfl⟩
  rw [e]
  by_cases h : i ∈ is
  · rw [if_pos (decide_eq_true h), if_pos h]
  · rw [if_neg (by rw [decide_eq_false h]; decide), if_neg h, List.map_append]
    rfl
def mgI (is js : List Int) : List Int := js.foldl putI is
theorem mgD_int : ∀ (js : List Int) (is : List Int) (xs : List Pv), ∃ ys, mgD (is.map .int) xs (js.map .int) (js.map fun _ => .bl true) = ((mgI is js).map .int, ys)
  | [], is, xs => ⟨xs, rfl⟩
  | j :: js, is, xs => by
    show ∃ ys, mgD (putD (is.map .int) xs (.int j) (.bl true)).1 (putD (is.map .int) xs (.int j) (.bl true)).2 (js.map .int) (js.map fun _ => .bl true) = _
    rw [putD_int]
    exact mgD_int js (putI is j) _
theorem mgI_mem : ∀ (js is : List Int) (x : Int), x ∈ mgI is js ↔ x ∈ is ∨ x ∈ js
  | [], is, x => by simp [mgI]
  | j :: js, is, x => by
    show x ∈ mgI (putI is j) js ↔ _
    rw [mgI_mem js, List.mem_cons]
    unfold putI
    split
    · rename_i h
      constructor
      · rintro (z | z)
        · exact .inl z
        · exact .inr (.inr z)
      · rintro (z | z | z)
        · exact .inl z
        · rw [z]; exact .inl h
        · exact .inr z
    · rw [List.mem_append, List.mem_singleton]
      constructor
      · rintro ((z | z) | z)
        · exact .inl z
        · exact .inr (.inl z)
        · exact .inr (.inr z)
      · rintro (z | z | z)
        · exact .inl (.inl z)
        · exact .inl (.inr z)
        · exact .inr z
theorem putI_nd {is : List Int} (h : is.Nodup) (i : Int) : (putI is i).Nodup := by
  unfold putI
  split
  · exact h
  · rename_i hi
    rw [List.nodup_append]
    exact ⟨h, by simp, fun a ha b hb e => hi (by rw [List.mem_singleton.mp hb] at e; rw [← e]; exact ha)⟩
theorem mgI_nd : ∀ (js is : List Int), is.Nodup → (mgI is js).Nodup
  | [], is, h => h
  | j :: js, is, h => mgI_nd js _ (putI_nd h j)
theorem mgI_len : ∀ (js is : List Int), (mgI is js).length ≤ is.length + js.length
  | [], is => Nat.le_refl _
  | j :: js, is => by
    have := mgI_len js (putI is j)
    have h2 : (putI is j).length ≤ is.length + 1 := by
      unfold putI
      split
      · omega
      · rw [List.length_append]; exact Nat.le_refl _
    show (mgI (putI is j) js).length ≤ is.length + (js.length + 1)
    omega
/-! ### all instants -/
/-- the instants at which a telling (of the number n) is shown, rising -/
structure IsInst (ms : List Mv) (zs : List Zo) (p : Rat × Rat) (n : Int) (L : List Int) : Prop where
  pw : L.Pairwise (· < ·)
  mem : ∀ t, t ∈ L ↔ 0 ≤ t ∧ t + minOf zs (regOf ms p (t.fdiv 1440)) t = n
  len : L.length ≤ 60
theorem IsInst.uniq {ms ms' : List Mv} {zs zs' : List Zo} {p p' : Rat × Rat} {n n' : Int} {L L' : List Int} (h : IsInst ms zs p n L) (h' : IsInst ms' zs' p' n' L') (e : ∀ t, 0 ≤ t → (t + minOf zs (regOf ms p (t.fdiv 1440)) t = n ↔ t + minOf zs' (regOf ms' p' (t.fdiv 1440)) t = n')) : L = L' := by
  have n1 : L.Nodup := h.pw.imp fun {a b} z => by omega
  have n2 : L'.Nodup := h'.pw.imp fun {a b} z => by omega
  have pm : L.Perm L' := nodup_perm n1 n2 fun t => by
    rw [h.mem, h'.mem]
    constructor
    · rintro ⟨a, b⟩; exact ⟨a, (e t a).mp b⟩
    · rintro ⟨a, b⟩; exact ⟨a, (e t a).mpr b⟩
  exact pm.eq_of_pairwise (le := fun a b : Int => a ≤ b) (fun a b _ _ h1 h2 => by omega) (h.pw.imp fun {a b} z => by omega) (h'.pw.imp fun {a b} z => by omega)
theorem minOf_in {zs : List Zo} {r : Str} {t : Int} (h : ∀ z ∈ zs, RwZ z.2) (ht : 0 ≤ t) : minOf zs r t = 0 ∨ ∃ z ∈ zs, minOf zs r t ∈ z.2.map (·.2) := by
  unfold minOf
  cases hf : zs.find? (fun z => decide (z.1 = r)) with
  | none => exact .inl rfl
  | some z =>
    have hz := List.mem_of_find?_eq_some hf
    obtain ⟨pr, x, ef, el⟩ := last_some (h z hz) ht
    refine .inr ⟨z, hz, ?_⟩
    show lastOf z.2 t ∈ _
    rw [el]
    have : x ∈ (z.2.filter fun r => decide (r.1 ≤ t)).map (·.2) := by rw [ef]; simp
    obtain ⟨q, hq, rfl⟩ := List.mem_map.mp this
    exact List.mem_map.mpr ⟨q, (List.mem_filter.mp hq).1, rfl⟩
/-- the keys that are gone through -/
theorem inst_of {ms : List Mv} {zs : List Zo} {p : Rat × Rat} {n : Int} {ks : List Int} (hz : ∀ z ∈ zs, RwZ z.2) (nd : ks.Nodup) (hk : ∀ x, x ∈ ks ↔ x = 0 ∨ ∃ z ∈ zs, x ∈ z.2.map (·.2)) (hl : ks.length ≤ 60) :
    IsInst ms zs p n (sortI (((ks.filter fun k => decide (n ≥ k)).map fun k => n - k).filter fun t => decide (t + minOf zs (regOf ms p (t.fdiv 1440)) t = n))) := by
  have nd2 : (((ks.filter fun k => decide (n ≥ k)).map fun k => n - k).filter fun t => decide (t + minOf zs (regOf ms p (t.fdiv 1440)) t = n)).Nodup := by
    refine List.Pairwise.filter _ ?_
    exact List.Pairwise.map _ (fun a b h e => h (by omega)) (List.Pairwise.filter _ nd)
  refine ⟨?_, fun t => ?_, ?_⟩
  · have n2 := (sortI_perm (((ks.filter fun k => decide (n ≥ k)).map fun k => n - k).filter fun t => decide (t + minOf zs (regOf ms p (t.fdiv 1440)) t = n))).nodup_iff.mpr nd2
    exact ((sortI_pw _).and n2).imp fun {a b} ⟨z, y⟩ => by omega
  · rw [(sortI_perm _).mem_iff, List.mem_filter, List.mem_map, decide_eq_true_eq]
    constructor
    · rintro ⟨⟨k, hk2, rfl⟩, h2⟩
      have := of_decide_eq_true (List.mem_filter.mp hk2).2
      exact ⟨by omega, h2⟩
    · rintro ⟨h0, h2⟩
      refine ⟨⟨minOf zs (regOf ms p (t.fdiv 1440)) t, List.mem_filter.mpr ⟨?_, decide_eq_true (by omega)⟩, by omega⟩, h2⟩
      rw [hk]
      exact minOf_in hz h0
  · rw [(sortI_perm _).length_eq]
    refine Nat.le_trans (List.length_filter_le _ _) ?_
    rw [List.length_map]
    exact Nat.le_trans (List.length_filter_le _ _) hl
/-- a telling's number -/
def numT (d h m : Int) : Int := d * 1440 + h * 60 + m
theorem numT_sh {d h m : Int} (h0 : 0 ≤ h ∧ h < 24) (m0 : 0 ≤ m ∧ m < 60) : shP3 (numT d h m) = .tup [.int d, .int h, .int m] := by
  unfold shP3 numT
  have a := fd (d * 1440 + h * 60 + m)
  have c := fd ((d * 1440 + h * 60 + m).fmod 1440)
  rw [c.2.1, a.1, a.2.2.1, a.2.2.2.1]
  have e1 : (d * 1440 + h * 60 + m) / 1440 = d := by omega
  have e2 : (d * 1440 + h * 60 + m) % 1440 / 60 = h := by omega
  have e3 : (d * 1440 + h * 60 + m) % 60 = m := by omega
  rw [e1, e2, e3]
theorem eqv3 (a b : Int) : PyData.eqv (toD (shP3 a)) (toD (shP3 b)) = decide (a = b) := by
  show ((a.fdiv 1440 == b.fdiv 1440) && (((a.fmod 1440).fdiv 60 == (b.fmod 1440).fdiv 60) && ((a.fmod 60 == b.fmod 60) && true))) = _
  rw [Bool.eq_iff_iff, decide_eq_true_eq]
  simp only [Bool.and_eq_true, beq_iff_eq, and_true]
  constructor
  · rintro ⟨h1, h2, h3⟩
    refine shP3_inj ?_
    unfold shP3
    rw [h1, h2, h3]
  · rintro rfl
    exact ⟨rfl, rfl, rfl⟩
theorem putD_len {is : List Int} {xs : List Pv} (h : xs.length = is.length) (i : Int) (v : Pv) : (putD (is.map .int) xs (.int i) v).2.length = (putI is i).length := by
  have e := congrArg List.length (putD_int is xs i v)
  rw [List.length_map] at e
  rw [← e]
  unfold putD
  split
  · show (List.map _ _).length = (is.map Pv.int).length
    rw [List.length_map, List.length_zip, List.length_map, h]
    omega
  · show (xs ++ [v]).length = (is.map Pv.int ++ [Pv.int i]).length
    rw [List.length_append, List.length_append, List.length_map, h]
    rfl
theorem mgD_ints : ∀ (js is : List Int) (xs ys : List Pv), xs.length = is.length → ys.length = js.length → ∃ zs, mgD (is.map .int) xs (js.map .int) ys = ((mgI is js).map .int, zs) ∧ zs.length = (mgI is js).length
  | [], is, xs, [], h, _ => ⟨xs, rfl, h⟩
  | [], _, _, _ :: _, _, h => by cases h
  | _ :: _, _, _, [], _, h => by cases h
  | j :: js, is, xs, y :: ys, h, h2 => by
    show ∃ zs, mgD (putD (is.map .int) xs (.int j) y).1 (putD (is.map .int) xs (.int j) y).2 (js.map .int) ys = _ ∧ _
    rw [putD_int]
    exact mgD_ints js (putI is j) _ ys (putD_len h j y) (by simpa using h2)
theorem rise_uniq {A B : List Int} (ha : A.Pairwise (· < ·)) (hb : B.Pairwise (· < ·)) (h : ∀ x, x ∈ A ↔ x ∈ B) : A = B := by
  have n1 : A.Nodup := ha.imp fun {a b} z => by omega
  have n2 : B.Nodup := hb.imp fun {a b} z => by omega
  exact (nodup_perm n1 n2 h).eq_of_pairwise (le := fun a b : Int => a ≤ b) (fun a b _ _ h1 h2 => by omega) (ha.imp fun {a b} z => by omega) (hb.imp fun {a b} z => by omega)
theorem rise_sort {js : List Int} (nd : js.Nodup) : (sortI js).Pairwise (· < ·) := by
  have n2 := (sortI_perm js).nodup_iff.mpr nd
  exact ((sortI_pw js).and n2).imp fun {a b} ⟨z, y⟩ => by omega
theorem okD_l3 (ns : List Int) : okD (.lst (ns.map shP3)) = true := by
  have h1 : isDs (ns.map shP3) = true := isDs_map (fun _ => rfl) ns
  have h2 : PyData.canLayAll0 (toDs (ns.map shP3)) = true ∧ PyData.depthAll (toDs (ns.map shP3)) ≤ 1 := by
    clear h1
    induction ns with
    | nil => exact ⟨rfl, by decide⟩
    | cons x l ih =>
      refine ⟨?_, ?_⟩
      · show (true && PyData.canLayAll0 (toDs (l.map shP3))) = true
        rw [ih.1]; rfl
      · show max 1 (PyData.depthAll (toDs (l.map shP3))) ≤ 1
        have := ih.2
        omega
  unfold okD SeqAt.shaped
  rw [show isD (.lst (ns.map shP3)) = true from h1, show PyData.canLay0 (toD (.lst (ns.map shP3))) = true from h2.1, Bool.true_and]
  have : PyData.depth (toD (.lst (ns.map shP3))) ≤ 2 := Nat.succ_le_succ h2.2
  simp only [Bool.true_and]
  exact decide_eq_true (Nat.le_trans this (by decide))
theorem eqv_l3 : ∀ a b : List Int, PyData.eqvAll (toDs (a.map shP3)) (toDs (b.map shP3)) = decide (a = b)
  | [], [] => rfl
  | [], _ :: _ => rfl
  | _ :: _, [] => rfl
  | x :: a, y :: b => by
    show (PyData.eqv (toD (shP3 x)) (toD (shP3 y)) && PyData.eqvAll (toDs (a.map shP3)) (toDs (b.map shP3))) = _
    rw [eqv_l3 a b, eqv3, Bool.eq_iff_iff]
    simp
theorem th_l3 {ns : List Int} (h : ∀ n ∈ ns, szI 200 n) : Thing (702 * ns.length + 3) 2 (.lst (ns.map shP3)) := by
  have hT : ∀ p ∈ ns.map shP3, Thing 700 1 p := by
    intro p hp
    obtain ⟨n, hn, rfl⟩ := List.mem_map.mp hp
    have h := h n hn
    have a := fd n
    have c := fd (n.fmod 1440)
    unfold shP3
    rw [c.2.1, a.1, a.2.2.1, a.2.2.2.1]
    exact (Thing.tup (Things.cons (Thing.int (n := 200) (d := 0) (by unfold szI at *; omega) (by decide)) (Things.cons (Thing.int (n := 200) (d := 0) (by unfold szI at *; omega) (by decide)) (Things.cons (Thing.int (n := 200) (d := 0) (by unfold szI at *; omega) (by decide)) (Things.nil (n := 0))))) (by show 3 ≤ 1000; decide)).up (by decide) (Nat.le_refl _)
  have := Things.of hT
  rw [List.length_map] at this
  exact Thing.lst this
theorem num_sum (n : Int) : n.fdiv 1440 * 1440 + (n.fmod 1440).fdiv 60 * 60 + n.fmod 60 = n := by
  have a := fd n
  have c := fd (n.fmod 1440)
  rw [c.2.1, a.1, a.2.2.1, a.2.2.2.1]
  omega
theorem nodup_sub : ∀ {l D : List Int}, l.Nodup → (∀ x ∈ l, x ∈ D) → l.length ≤ D.length
  | [], D, _, _ => Nat.zero_le _
  | x :: l, D, nd, h => by
    obtain ⟨h1, h2⟩ := List.nodup_cons.mp nd
    have hx := h x List.mem_cons_self
    have := nodup_sub (l := l) (D := D.erase x) h2 fun y hy => (List.mem_erase_of_ne (fun e => h1 (by rw [← e]; exact hy))).mpr (h y (List.mem_cons_of_mem _ hy))
    rw [List.length_erase_of_mem hx] at this
    have := List.length_pos_of_mem hx
    rw [List.length_cons]
    omega
def caseP (ms : List Mv) (zs : List Zo) : Pv := .tup [.tup (ms.map mvP), .tup (zs.map zoP)]
end PL

/-! {k: v, ..} that stays as it is; d[k]. -/
namespace PL
open PySem PySem.Spec PyProof.Rows L2
def fDisp (fs : PFs) : PF := fun ρ S Q => ∀ D, S D = none → fs ρ (put S D (.dct [] [])) fun ps S2 => S2 D = some (.dct [] []) ∧ ∃ ts : List (Pv × Pv), ps = flatP ts ∧ kysOk (ts.map (·.1)) ∧ ts.length ≤ 15 ∧ Q (.dct (mgD [] [] (ts.map (·.1)) (ts.map (·.2))).1 (mgD [] [] (ts.map (·.1)) (ts.map (·.2))).2) (del S2 D)
section
variable {X : Cx} {S0 : Sto} {H0 : Hp} {a b : Expr} {fa fb : PF} {pos : Pos} {fs : PFs} {keys : List (Option Expr)} {values : List Expr}
theorem pv_disp (h : PDs X S0 H0 pos keys values fs) (hall : keys.all (·.isSome) = true := by rfl) (hl : keys.length = values.length := by rfl) (h0 : keys ≠ [] := by intro z; cases z) (h15 : keys.length ≤ 15 := by decide) : PV X S0 H0 (.Dict keys values pos) (fDisp fs) := by
  obtain ⟨trs, pp, sim⟩ := h.pps
  refine ⟨fun ρ S Q Q' i q D hD => h.mono _ _ _ _ (fun ps S2 ⟨q1, ts, q2, q3, q4, q5⟩ => ⟨q1, ts, q2, q3, q4, i _ _ q5⟩) (q D hD), PE.imp (pe_disp pp hall hl h0 h15) fun σ H Q ⟨ρ, S, re, rs, ex, q⟩ d nd => ?_⟩
  have ee : Ext S H (put S d (.dct [] [])) (upd H d (.dK [])) := Ext.newS nd
  have rs1 := rs.newD nd
  refine sim σ _ _ ⟨ρ, _, re.ext rs ee, rs1, ex.trans ee, h.mono _ _ _ _ (fun ps S2 ⟨q1, ts, q2, q3, q4, q5⟩ vs H2 rv rs2 ex2 => ?_) (q d (rs.fr nd))⟩
  subst q2
  obtain ⟨kvs, a1, a2, a3, a4⟩ := flat_rep rv q3
  obtain ⟨kv0, e0, z1, z2⟩ := rs2 d _ q1
  have e00 : kv0 = [] := by
    have := z1.len
    rw [List.length_map] at this
    exact List.length_eq_zero_iff.mp this
  subst e00
  obtain ⟨m1, m2, m3⟩ := mg_rep (ks := []) (xs := []) (kvs := []) a3 a4 q3 rfl rfl (fun z hz => (by cases hz))
  refine ⟨e0, kvs, a1, by omega, ?_⟩
  have rs' := rs2.chgD q1 m1 m2
  have ex' := (ee.trans ex2).trans (Ext.chg (H := H2) (m' := .dct (mgD [] [] (ts.map (·.1)) (ts.map (·.2))).1 (mgD [] [] (ts.map (·.1)) (ts.map (·.2))).2) (o := .dK (mergeK [] kvs)) q1)
  have hn : del S2 d d = none := del_same
  rw [← put_del] at rs' ex'
  obtain ⟨kvs', e1, r1, r2⟩ := rs' d _ put_same
  have sb : Sub (del S2 d) (put (del S2 d) d (.dct (mgD [] [] (ts.map (·.1)) (ts.map (·.2))).1 (mgD [] [] (ts.map (·.1)) (ts.map (·.2))).2)) := Sub.put hn
  exact q5 (.ref d) _ ⟨d, kvs', rfl, .inl e1, hn, r1.sub sb, r2.sub sb⟩ (rs'.sub sb) (ex'.sub sb)
def oDGet : O2 := fun x k S Q => match dcP S x with
  | some (ks, xs) => (kyP k).isSome = true ∧ kysOk ks ∧ ∃ v, getK ks xs k = some v ∧ Q v S
  | none => False
theorem pv_dgetI {o i : Expr} {fo fi : PF} (hu : X.A.units + 64 < cLine) (ho : PV X S0 H0 o fo) (hi : PV X S0 H0 i fi) (hs : NoSl i := by intro _ _; rfl) : PV X S0 H0 (.Subscript o i pos) (f2 oDGet fo fi) := by
  refine ⟨fun ρ S Q Q' h q => ho.mono _ _ _ _ (fun x S1 q => hi.mono _ _ _ _ (fun k S2 q => ?_) q) q, PE.imp (pe_dget (by omega) ho.pe hi.pe hs) fun σ H Q ⟨ρ, S, re, rs, ex, q⟩ => ?_⟩
  · unfold oDGet at q ⊢
    split at q
    · obtain ⟨q1, q2, v, q3, q4⟩ := q
      exact ⟨q1, q2, v, q3, h _ _ q4⟩
    · exact q
  refine ⟨ρ, S, re, rs, ex, ho.mono _ _ _ _ (fun x S1 q v H1 rx rs1 ex1 => ?_) q⟩
  refine ⟨ρ, S1, re.ext rs ex1, rs1, ex.trans ex1, hi.mono _ _ _ _ (fun k S2 q kv H2 rk rs2 ex2 => ?_) q⟩
  unfold oDGet at q
  split at q
  · rename_i ks xs e1
    obtain ⟨q1, q2, w, q3, q4⟩ := q
    obtain ⟨key, hk⟩ := Option.isSome_iff_exists.mp q1
    obtain ⟨a1, kvs, ea, hr, r1, r2⟩ := dcP_rep rs2 e1 (RepV.ext rs1 ex2 x v rx)
    rcases get_rep hk r1 r2 q2 with ⟨g1, g2⟩ | ⟨u, y, g1, g2, g3⟩
    · rw [g2] at q3; cases q3
    · rw [g2] at q3
      cases q3
      exact ⟨a1, u, ea, .inl ⟨kvs, key, hr, kyP_rep hk rk, g1.symm⟩, q4 u H2 g3 rs2 (ex1.trans ex2)⟩
  · exact q.elim
end
end PL

/-! list(d); d[k] = v, whether k is there or not. -/
namespace PL
open PySem PySem.Spec PyProof.Rows L2
section
variable {X : Cx} {S0 : Sto} {H0 : Hp} {a b e : Expr} {fa fb fe : PF} {pos p : Pos} {fs : PFs}
def oListD : On := fun ps S Q => match ps with
  | [x] => (match dcP S x with | some (ks, _) => Q (.lst ks) S | none => False)
  | _ => False
theorem pv_listD (hc : X.calm = true) (hm : X.mg "list" = none) (ha : PVs X S0 H0 [a] fs) (hg : Gl X "list" := by rfl) (he : starEach (a :: []) X.env = (false, eval a X.env) :: starEach [] X.env := by rfl) (hpl : (backTo pos (starEach [] X.env)).any (·.1) = false := by rfl) : PV X S0 H0 (.Call (.Name "list" p) [a] [] pos) (fN oListD fs) := by
  refine pv_callTy (call_listD hc) ⟨fun x S Q Q' h q => ?_, fun x S Qp v H Q rx rs h k => ?_⟩ hg hm (by decide +kernel) ha (by decide) (by decide) he hpl
  · unfold oListD at q ⊢
    split at q
    · split at q
      · exact h _ _ q
      · exact q
    · exact q
  · unfold oListD at h
    split at h
    · obtain ⟨v1, rfl, r1⟩ := rx.one
      split at h
      · rename_i ks xs e1
        obtain ⟨b, kvs, e2, hr, q1, q2⟩ := dcP_rep rs e1 r1
        refine ⟨b, kvs, by rw [e2], hr, fun p' np => ?_⟩
        obtain ⟨a1, a2, a3⟩ := newL_k rs np q1
        exact k _ S _ _ h a1 a2 a3
      · exact h.elim
    · exact h.elim
def gPutG (fv fd fk : PF) : PFS := fun D ρ S => fv ρ S fun v S1 => fd ρ S1 fun x S2 => fk ρ S2 fun k S3 => match x with
  | .ref a => (match S3 a with
    | some (.dct ks xs) => (kyP k).isSome = true ∧ kysOk ks ∧ ks.length < sizeLine ∧ D.nx ρ (put S3 a (.dct (putD ks xs k v).1 (putD ks xs k v).2))
    | _ => False)
  | _ => False
theorem pz_putG {o i value : Expr} {fv fd fk : PF} {pos' : Pos} (hu : X.A.units + 64 < cLine) (hv : PV X S0 H0 value fv) (ho : PV X S0 H0 o fd) (hi : PV X S0 H0 i fk) (hs : swapsWith value (some (.Subscript o i pos')) pos.line X.env = pure false := by rfl) : PZ X S0 H0 (.Assign [.Subscript o i pos'] value pos) (gPutG fv fd fk) := by
  refine ⟨fun D D' ρ S l q => hv.mono _ _ _ _ (fun v S1 q => ho.mono _ _ _ _ (fun x S2 q => hi.mono _ _ _ _ (fun k S3 q => ?_) q) q) q, PS.imp (ps_dput (by omega) ho.pe hi.pe hv.pe hs) fun D σ H ⟨ρ, S, re, rs, ex, q⟩ => ?_⟩
  · split at q
    · split at q
      · exact ⟨q.1, q.2.1, q.2.2.1, l.1 _ _ q.2.2.2⟩
      · exact q
    · exact q
  refine ⟨ρ, S, re, rs, ex, hv.mono _ _ _ _ (fun p S1 q v H1 rv rs1 ex1 => ?_) q⟩
  refine ⟨ρ, S1, re.ext rs ex1, rs1, ex.trans ex1, ho.mono _ _ _ _ (fun x S2 q xv H2 rx rs2 ex2 => ?_) q⟩
  have e2 := ex1.trans ex2
  refine ⟨ρ, S2, re.ext rs e2, rs2, ex.trans e2, hi.mono _ _ _ _ (fun y S3 q yv H3 ry rs3 ex3 => ?_) q⟩
  have e3 := e2.trans ex3
  cases x with
  | ref a =>
    have q : (match S3 a with | some (.dct ks xs) => (kyP y).isSome = true ∧ kysOk ks ∧ ks.length < sizeLine ∧ _ | _ => False) := q
    split at q
    · rename_i ks xs e
      obtain ⟨h1, h2, h4, q⟩ := q
      obtain ⟨k, hk⟩ := Option.isSome_iff_exists.mp h1
      obtain ⟨kvs, hq, r1, r2⟩ := rs3 _ _ e
      have ey := kyP_rep hk ry
      have rv3 := RepV.ext rs1 (ex2.trans ex3) p v rv
      have hl : kvs.length = ks.length := by have := r1.len; rwa [List.length_map] at this
      obtain ⟨p1, p2, p3⟩ := put_rep hk rv3 r1 r2 h2
      have hx : xv = .ref a := rx
      refine ⟨a, _, hx, .inl ⟨kvs, k, hq, ey, by rw [hl]; exact h4, rfl⟩, ?_⟩
      have rsn := rs3.chgD e p1 p2
      have en := e3.trans (Ext.chg (H := H3) (m' := .dct (putD ks xs y p).1 (putD ks xs y p).2) (o := .dK (putK kvs k v)) e)
      exact q σ _ (re.ext rs en) rsn en
    · exact q.elim
  | _ => exact q.elim
end
end PL

/-! Drawn moves as a list; whose a tile is; the codes of four figures: plain. -/
namespace PL
open PySem PySem.Spec PyProof.Rows L2
theorem code_cd {n : Nat} {x : Str} (h : codeN n x = true) : ∃ ds : List Nat, x = cdS ds ∧ (∀ d ∈ ds, d < 4) ∧ ds.length ≤ n := by
  unfold codeN codeS at h
  simp only [Bool.and_eq_true, decide_eq_true_eq] at h
  obtain ⟨⟨_, h2⟩, h3⟩ := h
  have h2 := List.all_eq_true.mp h2
  have hc : ∀ c ∈ x.cps.toList, 48 ≤ c ∧ c ≤ 51 := fun c hc => by
    have := h2 c hc
    unfold figC at this
    simp only [Bool.and_eq_true, decide_eq_true_eq] at this
    exact this
  refine ⟨x.cps.toList.map (· - 48), ?_, ?_, ?_⟩
  · unfold cdS
    rw [List.map_map]
    have : x.cps.toList.map ((· + 48) ∘ (· - 48)) = x.cps.toList := by
      conv => rhs; rw [← List.map_id x.cps.toList]
      refine List.map_congr_left fun c h => ?_
      have := hc c h
      show c - 48 + 48 = c
      omega
    rw [this]
  · intro d hd
    obtain ⟨c, h, rfl⟩ := List.mem_map.mp hd
    have := hc c h
    omega
  · rw [List.length_map]
    exact h3
theorem codes_cd {n : Nat} : ∀ {ss : List Str}, (∀ s ∈ ss, codeN n s = true) → ∃ cs : List (List Nat), ss = cs.map cdS ∧ ∀ ds ∈ cs, (∀ d ∈ ds, d < 4) ∧ ds.length ≤ n
  | [], _ => ⟨[], rfl, by simp⟩
  | s :: ss, h => by
    obtain ⟨ds, rfl, h1⟩ := code_cd (h s List.mem_cons_self)
    obtain ⟨cs, rfl, h2⟩ := codes_cd fun t ht => h t (List.mem_cons_of_mem _ ht)
    refine ⟨ds :: cs, rfl, fun e he => ?_⟩
    rcases List.mem_cons.mp he with rfl | he
    · exact h1
    · exact h2 e he
/-- a move that is one -/
structure MvT (m : Mv) : Prop where
  day : 0 ≤ m.1
  cd : CdOk m.2.1
  ne : m.2.1 ≠ []
  len : m.2.1.length ≤ 100
  word : wordS m.2.2 = true
theorem mv_of {p : Pv} (h : mvQ p = true) (hs : shP p = true) : ∃ m : Mv, p = mvP m ∧ MvT m := by
  cases p with
  | tup ys =>
    match ys, h with
    | [d, c, r], h =>
      have h : (dayP d && ((codesP 4 c && neT c) && wordP r)) = true := h
      simp only [Bool.and_eq_true] at h
      obtain ⟨h1, ⟨h2, h3⟩, h4⟩ := h
      obtain ⟨_, hsh⟩ := shP_tup hs
      obtain ⟨ss, rfl, hc⟩ := codes_strs h2
      have hl : ss.length ≤ 100 := by
        have := (shP_tup (hsh (.tup (ss.map .str)) (by simp))).1
        rwa [List.length_map] at this
      have hc' : ∀ s ∈ ss, codeN 4 s = true := by
        unfold codesS at hc
        exact List.all_eq_true.mp (Bool.and_eq_true_iff.mp hc).1
      obtain ⟨cs, rfl, hcs⟩ := codes_cd hc'
      cases d with
      | int i =>
        cases r with
        | str w =>
          refine ⟨(i, cs, w), ?_, ?_, hcs, ?_, ?_, h4⟩
          · show Pv.tup [.int i, .tup ((cs.map cdS).map .str), .str w] = .tup [.int i, .tup (cs.map fun ds => .str (cdS ds)), .str w]
            rw [List.map_map]
            rfl
          · exact of_decide_eq_true h1
          · rintro rfl
            cases h3
          · rwa [List.length_map] at hl
        | _ => cases h4
      | _ => cases h1
    | [], h => cases h
    | [_], h => cases h
    | [_, _], h => cases h
    | _ :: _ :: _ :: _ :: _, h => cases h
  | _ => cases h
theorem mvs_of : ∀ {ps : List Pv}, (∀ p ∈ ps, mvQ p = true ∧ shP p = true) → ∃ ms : List Mv, ps = ms.map mvP ∧ ∀ m ∈ ms, MvT m
  | [], _ => ⟨[], rfl, by simp⟩
  | p :: ps, h => by
    obtain ⟨m, rfl, h1⟩ := mv_of (h p List.mem_cons_self).1 (h p List.mem_cons_self).2
    obtain ⟨ms, rfl, h2⟩ := mvs_of fun t ht => h t (List.mem_cons_of_mem _ ht)
    refine ⟨m :: ms, rfl, fun e he => ?_⟩
    rcases List.mem_cons.mp he with rfl | he
    · exact h1
    · exact h2 e he
theorem movesT {p : Pv} (h : MovesOk p) : ∃ ms : List Mv, p = .tup (ms.map mvP) ∧ (∀ m ∈ ms, MvT m) ∧ ms.length ≤ 24 := by
  cases p with
  | tup ps =>
    have hq : (decide (ps.length ≤ 24) && (ps.all mvQ && nonfall (ps.map dayI))) = true := h.q
    simp only [Bool.and_eq_true, decide_eq_true_eq] at hq
    obtain ⟨h1, h2, _⟩ := hq
    obtain ⟨ms, rfl, h3⟩ := mvs_of fun p hp => ⟨List.all_eq_true.mp h2 p hp, (shP_tup h.sh).2 p hp⟩
    exact ⟨ms, rfl, h3, by rwa [List.length_map] at h1⟩
  | _ => cases h.q
/-! ### whose a tile is -/
theorem cdS_inj {a b : List Nat} (h : cdS a = cdS b) : a = b := by
  unfold cdS at h
  have h : a.map (· + 48) = b.map (· + 48) := by simpa using h
  refine List.map_inj_right (fun x y e => ?_) |>.mp h
  omega
theorem preS_cd (a b : List Nat) : preS (cdS a) (cdS b) = a.isPrefixOf b := by
  rw [Bool.eq_iff_iff, preS_iff, List.isPrefixOf_iff_prefix]
  show a.map (· + 48) <+: b.map (· + 48) ↔ _
  constructor
  · rintro ⟨t, e⟩
    have e2 := congrArg (List.map (· - 48)) e
    rw [List.map_append, List.map_map, List.map_map] at e2
    have hid : ∀ l : List Nat, l.map ((· - 48) ∘ (· + 48)) = l := fun l => by
      conv => rhs; rw [← List.map_id l]
      refine List.map_congr_left fun c _ => ?_
      show c + 48 - 48 = c
      omega
    rw [hid, hid] at e2
    exact ⟨_, e2⟩
  · rintro ⟨t, rfl⟩
    exact ⟨t.map (· + 48), by rw [List.map_append]⟩
theorem tlN_take {p : Rat × Rat} (hp : inLand p) (n : Nat) : ∀ k : Nat, (tlN p (n + k)).take n = tlN p n
  | 0 => by
    rw [Nat.add_zero]
    exact List.take_of_length_le (by rw [cdN_len]; exact Nat.le_refl _)
  | k + 1 => by
    rw [← Nat.add_assoc, tlN_snoc hp, List.take_append_of_le_length (by rw [cdN_len]; omega)]
    exact tlN_take hp n k
theorem spN_inj : ∀ (n : Nat) (a b : List Nat), a.length = n → b.length = n → (∀ d ∈ a, d < 4) → (∀ d ∈ b, d < 4) → spN a = spN b → a = b := by
  intro n
  induction n with
  | zero =>
    intro a b h1 h2 _ _ _
    rw [List.length_eq_zero_iff.mp h1, List.length_eq_zero_iff.mp h2]
  | succ n ih =>
    intro a b h1 h2 ha hb e
    have na : a ≠ [] := by rintro rfl; simp at h1
    have nb : b ≠ [] := by rintro rfl; simp at h2
    obtain ⟨a', x, rfl⟩ : ∃ es d, a = es ++ [d] := ⟨a.dropLast, a.getLast na, (List.dropLast_concat_getLast na).symm⟩
    obtain ⟨b', y, rfl⟩ : ∃ es d, b = es ++ [d] := ⟨b.dropLast, b.getLast nb, (List.dropLast_concat_getLast nb).symm⟩
    rw [spN_snoc, spN_snoc] at e
    have hx := ha x (by simp)
    have hy := hb y (by simp)
    have e1 : 2 * (spN a').1 + x % 2 = 2 * (spN b').1 + y % 2 := congrArg Prod.fst e
    have e2 : 2 * (spN a').2 + x / 2 = 2 * (spN b').2 + y / 2 := congrArg Prod.snd e
    have e3 : spN a' = spN b' := Prod.ext (by omega) (by omega)
    have := ih a' b' (by simpa using h1) (by simpa using h2) (fun d h => ha d (by simp [h])) (fun d h => hb d (by simp [h])) e3
    rw [this, show x = y by omega]
theorem hasT_pre {p : Rat × Rat} (hp : inLand p) {ds : List Nat} (h4 : ∀ d ∈ ds, d < 4) (hl : ds.length ≤ 4) : ds.isPrefixOf (tlN p 4) = hasT p ds := by
  have ht : (tlN p 4).take ds.length = tlN p ds.length := by
    have := tlN_take hp ds.length (4 - ds.length)
    rwa [show ds.length + (4 - ds.length) = 4 by omega] at this
  have hs : spN (tlN p ds.length) = (colN p.1 ds.length, colN p.2 ds.length) := spN_cdN _ _ _ (colN_lt hp.1 _) (colN_lt hp.2 _)
  rw [Bool.eq_iff_iff, List.isPrefixOf_iff_prefix, List.prefix_iff_eq_take, ht]
  unfold hasT
  rw [Bool.and_eq_true, decide_eq_true_eq, decide_eq_true_eq]
  constructor
  · intro e
    have : spN ds = (colN p.1 ds.length, colN p.2 ds.length) := by rw [← hs]; exact congrArg spN e
    rw [this]
    exact ⟨rfl, rfl⟩
  · rintro ⟨e1, e2⟩
    refine spN_inj ds.length ds _ rfl (cdN_len _ _ _) h4 (cdN_lt _ _ _) ?_
    rw [hs]
    exact Prod.ext e1.symm e2.symm
def ownF (c : List Nat) (day : Int) (r : Str) (m : Mv) : Str := if (decide (m.1 ≤ day) && m.2.1.any fun ds => ds.isPrefixOf c) = true then m.2.2 else r
def ownOf (ms : List Mv) (c : List Nat) (day : Int) : Str := ms.foldl (ownF c day) "land"
theorem ownOf_snoc (ms : List Mv) (m : Mv) (c : List Nat) (day : Int) : ownOf (ms ++ [m]) c day = ownF c day (ownOf ms c day) m := by
  unfold ownOf
  rw [List.foldl_append]
  rfl
theorem own_reg {p : Rat × Rat} (hp : inLand p) (day : Int) {ms : List Mv} (h : ∀ m ∈ ms, CdOk m.2.1) : ownOf ms (tlN p 4) day = regOf ms p day := by
  have key : ∀ (ms : List Mv) (r : Str), (∀ m ∈ ms, CdOk m.2.1) → ms.foldl (ownF (tlN p 4) day) r = ms.foldl (regF p day) r := by
    intro ms
    induction ms with
    | nil => intro r _; rfl
    | cons m ms ih =>
      intro r hm
      rw [List.foldl_cons, List.foldl_cons, ih _ fun x hx => hm x (List.mem_cons_of_mem _ hx)]
      congr 1
      unfold ownF regF
      have : (m.2.1.any fun ds => ds.isPrefixOf (tlN p 4)) = m.2.1.any (hasT p) := by
        have hc := hm m List.mem_cons_self
        rw [Bool.eq_iff_iff, List.any_eq_true, List.any_eq_true]
        constructor
        · rintro ⟨ds, h1, h2⟩
          exact ⟨ds, h1, by rw [← hasT_pre hp (hc ds h1).1 (hc ds h1).2]; exact h2⟩
        · rintro ⟨ds, h1, h2⟩
          exact ⟨ds, h1, by rw [hasT_pre hp (hc ds h1).1 (hc ds h1).2]; exact h2⟩
      rw [this]
  exact key ms "land" h
/-! ### all codes of so many figures -/
def allC : Nat → List (List Nat)
  | 0 => [[]]
  | n + 1 => (allC n).flatMap fun c => [0, 1, 2, 3].map fun d => c ++ [d]
theorem allC_len : ∀ n : Nat, (allC n).length = 4 ^ n
  | 0 => rfl
  | n + 1 => by
    have : ∀ l : List (List Nat), (l.flatMap fun c => [0, 1, 2, 3].map fun d => c ++ [d]).length = 4 * l.length := fun l => by
      induction l with
      | nil => rfl
      | cons a l ih => rw [List.flatMap_cons, List.length_append, ih, List.length_cons]; show 4 + _ = _; omega
    show ((allC n).flatMap _).length = _
    rw [this, allC_len n, Nat.pow_succ, Nat.mul_comm]
theorem allC_mem : ∀ (n : Nat) (c : List Nat), c ∈ allC n ↔ c.length = n ∧ ∀ d ∈ c, d < 4
  | 0, c => by
    show c ∈ [[]] ↔ _
    rw [List.mem_singleton]
    constructor
    · rintro rfl; exact ⟨rfl, by simp⟩
    · rintro ⟨h, _⟩; exact List.length_eq_zero_iff.mp h
  | n + 1, c => by
    show c ∈ (allC n).flatMap _ ↔ _
    rw [List.mem_flatMap]
    constructor
    · rintro ⟨c', h1, h2⟩
      obtain ⟨d, hd, rfl⟩ := List.mem_map.mp h2
      obtain ⟨h3, h4⟩ := (allC_mem n c').mp h1
      refine ⟨by rw [List.length_append, h3]; rfl, fun e he => ?_⟩
      rcases List.mem_append.mp he with he | he
      · exact h4 e he
      · rw [List.mem_singleton.mp he]
        simp at hd; omega
    · rintro ⟨h1, h2⟩
      have hne : c ≠ [] := by rintro rfl; simp at h1
      obtain ⟨es, d, rfl⟩ : ∃ es d, c = es ++ [d] := ⟨c.dropLast, c.getLast hne, (List.dropLast_concat_getLast hne).symm⟩
      refine ⟨es, (allC_mem n es).mpr ⟨by simpa using h1, fun x hx => h2 x (by simp [hx])⟩, List.mem_map.mpr ⟨d, ?_, rfl⟩⟩
      have := h2 d (by simp)
      simp; omega
theorem allC_nd : ∀ n : Nat, (allC n).Nodup
  | 0 => by decide
  | n + 1 => by
    have ih := allC_nd n
    show ((allC n).flatMap fun c => [0, 1, 2, 3].map fun d => c ++ [d]).Pairwise (· ≠ ·)
    rw [List.flatMap_def]
    refine List.pairwise_flatten.mpr ⟨?_, ?_⟩
    · intro l hl
      obtain ⟨c, _, rfl⟩ := List.mem_map.mp hl
      refine List.Pairwise.map _ (R := fun a b : Nat => a ≠ b) (fun a b h e => h ?_) (by decide)
      have := List.append_cancel_left e
      simpa using this
    · refine List.Pairwise.map _ (R := fun a b : List Nat => a ≠ b) (fun a b h x hx y hy e => h ?_) ih
      obtain ⟨d, _, rfl⟩ := List.mem_map.mp hx
      obtain ⟨d', _, rfl⟩ := List.mem_map.mp hy
      exact (List.append_inj' e rfl).1
/-! ### a dict whose keys are codes -/
def cdK (c : List Nat) : Pv := .str (cdS c)
theorem kyc_inj {a b : List Nat} : kyP (cdK a) = kyP (cdK b) ↔ a = b := by
  constructor
  · intro h
    have : cdS a = cdS b := by simpa [kyP, cdK] using h
    exact cdS_inj this
  · rintro rfl; rfl
theorem putD_new {cs : List (List Nat)} {xs : List Pv} {c : List Nat} {v : Pv} (h : c ∉ cs) : putD (cs.map cdK) xs (cdK c) v = ((cs ++ [c]).map cdK, xs ++ [v]) := by
  unfold putD
  rw [if_neg, List.map_append]
  · rfl
  · rw [List.any_eq_true]
    rintro ⟨z, hz, e⟩
    obtain ⟨c', hc, rfl⟩ := List.mem_map.mp hz
    exact h (by rw [← kyc_inj.mp (of_decide_eq_true e)]; exact hc)
theorem putD_last {cs : List (List Nat)} {xs : List Pv} {c : List Nat} {v w : Pv} (hl : xs.length = cs.length) (h : c ∉ cs) : putD ((cs ++ [c]).map cdK) (xs ++ [w]) (cdK c) v = ((cs ++ [c]).map cdK, xs ++ [v]) := by
  unfold putD
  rw [if_pos]
  · congr 1
    rw [List.map_append, List.zip_append (by rw [List.length_map, hl]), List.map_append]
    congr 1
    · have : ∀ (cs : List (List Nat)) (xs : List Pv), xs.length = cs.length → c ∉ cs → ((cs.map cdK).zip xs).map (fun p => if kyP p.1 = kyP (cdK c) then v else p.2) = xs := by
        intro cs
        induction cs with
        | nil => intro xs h _; rw [List.length_eq_zero_iff.mp h]; rfl
        | cons c' cs ih =>
          intro xs hl hn
          match xs, hl with
          | x :: xs, hl =>
            rw [List.map_cons, List.zip_cons_cons, List.map_cons, ih xs (by simpa using hl) (fun z => hn (List.mem_cons_of_mem _ z)), if_neg]
            intro e
            exact hn (by rw [← kyc_inj.mp e]; exact List.mem_cons_self)
      exact this cs xs hl h
    · show [if kyP (cdK c) = kyP (cdK c) then v else w] = [v]
      rw [if_pos rfl]
  · rw [List.any_eq_true]
    exact ⟨cdK c, by simp, decide_eq_true rfl⟩
theorem getK_cd (f : List Nat → Pv) (c : List Nat) : ∀ {cs : List (List Nat)}, c ∈ cs → getK (cs.map cdK) (cs.map f) (cdK c) = some (f c)
  | [], h => by cases h
  | c' :: cs, h => by
    show (if kyP (cdK c') = kyP (cdK c) then some (f c') else getK (cs.map cdK) (cs.map f) (cdK c)) = _
    by_cases e : c' = c
    · rw [if_pos (kyc_inj.mpr e), e]
    · rw [if_neg fun z => e (kyc_inj.mp z)]
      exact getK_cd f c ((List.mem_cons.mp h).resolve_left fun z => e z.symm)
end PL

/-! xs.pop(i), xs.pop(), xs.insert(i, y), xs.extend(ys). -/
namespace PL
open PySem PySem.Spec PyProof.Rows L2
section
variable {X : Cx} {S0 : Sto} {H0 : Hp} {a b e e2 : Expr} {fa fb fe : PF} {pos p apos cpos : Pos} {fs : PFs}
theorem RepVs.erase {K : PySem.W.Frag} {H : Hp} {S : Sto} : ∀ {ps : List Pv} {vs : List V} (i : Nat), RepVs K H S ps vs → RepVs K H S (ps.eraseIdx i) (vs.eraseIdx i)
  | [], vs, i, r => by
    have : vs = [] := r
    subst this
    exact rfl
  | p :: ps, vs, 0, ⟨v, us, e, r, rr⟩ => by subst e; exact rr
  | p :: ps, vs, i + 1, ⟨v, us, e, r, rr⟩ => by subst e; exact ⟨v, _, rfl, r, RepVs.erase i rr⟩
def oPopAt (x : Pv) (ps : List Pv) (S : Sto) (Q : QV) : Prop := match x, ps with
  | .ref a, [.int i] => (match S a with
    | some (.lst xs) => (-(2 ^ 63) ≤ i ∧ i < 2 ^ 63) ∧ ∃ k y, ixN xs.length i = some k ∧ xs[k]? = some y ∧ Q y (put S a (.lst (xs.eraseIdx k)))
    | _ => False)
  | _, _ => False
theorem pv_popAt (ha : PV X S0 H0 a fa) (hb : PVs X S0 H0 [e] fs) (hbase : attributeBase a "pop" X.env (eval a X.env) = eval a X.env := by rfl)
    (hfew : ((backTo cpos (starEach [e] X.env)).all (fun x => !x.1) && (backToKw cpos (keywordEach [] X.env)).all (fun x => x.1.isSome) && decide ([e].length + ([] : List Keyword).length + (if ([] : List Keyword).isEmpty then 0 else 1) < 30)) = true := by rfl)
    (hline : (apos.endLine == cpos.line) = true := by rfl) (hs : starEach [e] X.env = (false, eval e X.env) :: starEach [] X.env := by rfl) (hplain : (backTo cpos (starEach [] X.env)).any (·.1) = false := by rfl) :
    PV X S0 H0 (.Call (.Attribute a "pop" apos) [e] [] cpos) (fMeth ckL oPopAt fa fs) := by
  have m : ∀ x ps S Q Q', (∀ p S', Q p S' → Q' p S') → oPopAt x ps S Q → oPopAt x ps S Q' := fun x ps S Q Q' i q => by
    unfold oPopAt at q ⊢
    split at q
    · split at q
      · obtain ⟨q1, k, y, q2, q3, q4⟩ := q
        exact ⟨q1, k, y, q2, q3, i _ _ q4⟩
      · exact q
    · exact q
  refine ⟨fMeth_mono m ha hb, PE.imp (pe_bm PySem.F.plainAttrs_list PySem.F.slot_list_pop PySem.F.type_list_pop mt_popAt ha.pe hb.pa hbase hfew hline hs hplain) fun σ H Q h => lift_meth (fun S x v H rs r h => ckL_ty rs r h) (fun x ps S Qp v vs H Q rv rvs rs h k => ?_) ha hb h⟩
  unfold oPopAt at h
  split at h
  · split at h
    · rename_i xs e
      obtain ⟨⟨h1, h2⟩, j, y, h3, h4, h5⟩ := h
      obtain ⟨us, hu, ru⟩ := rs _ _ e
      obtain ⟨pv, rfl, rp⟩ := rvs.one
      obtain ⟨w, hw, rw'⟩ := ru.get h4
      have ep : pv = .int _ := rp
      refine ⟨_, us, _, j, w, rv, by rw [ep], hu, h1, h2, by rw [ru.len]; exact (ixN_seq h3).1, hw, ?_⟩
      have ec : Ext S H (put S _ (.lst (xs.eraseIdx j))) (upd H _ (.lst (us.eraseIdx j))) := Ext.chg e
      exact k _ _ _ _ h5 (RepV.ext rs ec _ _ rw') (rs.chg e (ru.erase j)) ec
    · exact h.elim
  · exact h.elim
/-! ### xs[i:j], changed later -/
def oSlT (x : Pv) (lo hi : Option Int) (S : Sto) (Q : QV) : Prop := match rdL S x with
  | some xs => ∀ a, S a = none → Q (.ref a) (put S a (.lst (cutP xs lo hi)))
  | none => False
def fSlT (fa : PF) (fl fh : PFO) : PF := fun ρ S Q => fa ρ S fun x S1 => fl ρ S1 fun l S2 => fh ρ S2 fun h S3 => oSlT x l h S3 Q
theorem oSlT_mono {x : Pv} {lo hi : Option Int} {S : Sto} {Q Q' : QV} (i : ∀ p S', Q p S' → Q' p S') (q : oSlT x lo hi S Q) : oSlT x lo hi S Q' := by
  unfold oSlT at q ⊢
  split at q
  · exact fun a ha => i _ _ (q a ha)
  · exact q
theorem pv_sliceT {lo hi : Option Expr} {fl fh : PFO} {p2 : Pos} (ha : PV X S0 H0 a fa) (hl : PVo X S0 H0 lo fl) (hh : PVo X S0 H0 hi fh) : PV X S0 H0 (.Subscript a (.Slice lo hi none p2) pos) (fSlT fa fl fh) := by
  refine ⟨fun ρ S Q Q' i q => ha.mono _ _ _ _ (fun x S1 q => hl.mono _ _ _ _ (fun l S2 q => hh.mono _ _ _ _ (fun h S3 q => oSlT_mono i q) q) q) q, PE.imp (pe_slice sl_list ha.pe hl.po hh.po) fun σ H Q ⟨ρ, S, re, rs, ex, q⟩ => ?_⟩
  refine ⟨ρ, S, re, rs, ex, ha.mono _ _ _ _ (fun x S1 q v H1 rv rs1 ex1 => ?_) q⟩
  refine ⟨ρ, S1, re.ext rs ex1, rs1, ex.trans ex1, hl.mono _ _ _ _ (fun l S2 q H2 rs2 ex2 => ?_) q⟩
  have e2 := ex1.trans ex2
  refine ⟨ρ, S2, re.ext rs e2, rs2, ex.trans e2, hh.mono _ _ _ _ (fun h S3 q H3 rs3 ex3 => ?_) q⟩
  have e3 := e2.trans ex3
  have rv3 := RepV.ext rs1 (ex2.trans ex3) x v rv
  unfold oSlT at q
  split at q
  · rename_i xs e0
    obtain ⟨t, vs, e, hq, r⟩ := rdL_rep rs3 rv3 e0
    refine ⟨t, vs, e, hq, fun p np => ?_⟩
    exact q p (rs3.fr np) _ _ rfl (rs3.newL np (cut_rep r l h)) (e3.trans (Ext.newS np))
  · exact q.elim
/-! ### pop() -/
def fMeth0 (ck : Sto → Pv → Bool) (o : Pv → Sto → QV → Prop) (fa : PF) : PF := fun ρ S Q => fa ρ S fun x S1 => ck S1 x = true ∧ o x S1 Q
def oPop (x : Pv) (S : Sto) (Q : QV) : Prop := match x with
  | .ref a => (match S a with
    | some (.lst xs) => ∃ y, xs[xs.length - 1]? = some y ∧ Q y (put S a (.lst xs.dropLast))
    | _ => False)
  | _ => False
theorem RepVs.dropLast {K : PySem.W.Frag} {H : Hp} {S : Sto} {ps : List Pv} {vs : List V} (r : RepVs K H S ps vs) : RepVs K H S ps.dropLast vs.dropLast := by
  rw [List.dropLast_eq_take, List.dropLast_eq_take, r.len]
  exact r.take _
theorem pv_pop (ha : PV X S0 H0 a fa) (hbase : attributeBase a "pop" X.env (eval a X.env) = eval a X.env := by rfl) (hline : (apos.endLine == cpos.line) = true := by rfl) :
    PV X S0 H0 (.Call (.Attribute a "pop" apos) [] [] cpos) (fMeth0 ckL oPop fa) := by
  refine ⟨fun ρ S Q Q' i q => ha.mono _ _ _ _ (fun x S1 q => ⟨q.1, ?_⟩) q, PE.imp (pe_bm0 PySem.F.plainAttrs_list PySem.F.slot_list_pop PySem.F.type_list_pop mt_pop ha.pe hbase hline) fun σ H Q h => ?_⟩
  · have q := q.2
    unfold oPop at q ⊢
    split at q
    · split at q
      · obtain ⟨y, q1, q2⟩ := q
        exact ⟨y, q1, i _ _ q2⟩
      · exact q
    · exact q
  obtain ⟨ρ, S, re, rs, ex, q⟩ := h
  refine ⟨ρ, S, re, rs, ex, ha.mono _ _ _ _ (fun x S1 q v H1 rv rs1 ex1 => ⟨ckL_ty rs1 rv q.1, ?_⟩) q⟩
  have h := q.2
  unfold oPop at h
  split at h
  · split at h
    · rename_i xs e
      obtain ⟨y, h4, h5⟩ := h
      obtain ⟨us, hu, ru⟩ := rs1 _ _ e
      obtain ⟨w, hw, rw'⟩ := ru.get h4
      refine ⟨_, us, w, rv, rfl, hu, by rw [ru.len]; exact hw, ?_⟩
      have ec : Ext S1 H1 (put S1 _ (.lst xs.dropLast)) (upd H1 _ (.lst us.dropLast)) := Ext.chg e
      exact h5 _ _ (RepV.ext rs1 ec _ _ rw') (rs1.chg e ru.dropLast) (ex1.trans ec)
    · exact h.elim
  · exact h.elim
/-! ### insert -/
def oInsert (x : Pv) (ps : List Pv) (S : Sto) (Q : QV) : Prop := match x, ps with
  | .ref a, [.int i, y] => (match S a with
    | some (.lst xs) => (0 ≤ i ∧ i < 2 ^ 63) ∧ xs.length < sizeLine ∧ Q .non (put S a (.lst (xs.take i.toNat ++ [y] ++ xs.drop i.toNat)))
    | _ => False)
  | _, _ => False
theorem pv_insert (ha : PV X S0 H0 a fa) (hb : PVs X S0 H0 [e, e2] fs) (hbase : attributeBase a "insert" X.env (eval a X.env) = eval a X.env := by rfl)
    (hfew : ((backTo cpos (starEach [e, e2] X.env)).all (fun x => !x.1) && (backToKw cpos (keywordEach [] X.env)).all (fun x => x.1.isSome) && decide ([e, e2].length + ([] : List Keyword).length + (if ([] : List Keyword).isEmpty then 0 else 1) < 30)) = true := by rfl)
    (hline : (apos.endLine == cpos.line) = true := by rfl) (hs : starEach [e, e2] X.env = (false, eval e X.env) :: starEach [e2] X.env := by rfl) (hplain : (backTo cpos (starEach [e2] X.env)).any (·.1) = false := by rfl) :
    PV X S0 H0 (.Call (.Attribute a "insert" apos) [e, e2] [] cpos) (fMeth ckL oInsert fa fs) := by
  have m : ∀ x ps S Q Q', (∀ p S', Q p S' → Q' p S') → oInsert x ps S Q → oInsert x ps S Q' := fun x ps S Q Q' i q => by
    unfold oInsert at q ⊢
    split at q
    · split at q
      · exact ⟨q.1, q.2.1, i _ _ q.2.2⟩
      · exact q
    · exact q
  refine ⟨fMeth_mono m ha hb, PE.imp (pe_bm PySem.F.plainAttrs_list PySem.F.slot_list_insert PySem.F.type_list_insert mt_insert ha.pe hb.pa hbase hfew hline hs hplain) fun σ H Q h => lift_meth (fun S x v H rs r h => ckL_ty rs r h) (fun x ps S Qp v vs H Q rv rvs rs h k => ?_) ha hb h⟩
  unfold oInsert at h
  split at h
  · split at h
    · rename_i i y _ xs e
      obtain ⟨⟨h1, h2⟩, h3, h5⟩ := h
      obtain ⟨us, hu, ru⟩ := rs _ _ e
      obtain ⟨pv, qv, rfl, rp, rq⟩ := rvs.two
      have ep : pv = .int i := rp
      refine ⟨_, us, i, qv, rv, by rw [ep], hu, by rw [ru.len]; exact h3, h1, h2, ?_⟩
      have r1 : RepVs X.K H S [y] [qv] := ⟨qv, [], rfl, rq, rfl⟩
      exact k _ _ _ _ h5 rfl (rs.chg e (((ru.take i.toNat).app r1).app (ru.drop i.toNat))) (Ext.chg e)
    · exact h.elim
  · exact h.elim
/-! ### extend, by a list that is not tracked -/
def oExtend (x : Pv) (ps : List Pv) (S : Sto) (Q : QV) : Prop := match x, ps with
  | .ref a, [y] => (match S a, rdM S y with
    | some (.lst xs), some ys => xs.length + ys.length ≤ sizeLine ∧ Q .non (put S a (.lst (xs ++ ys)))
    | _, _ => False)
  | _, _ => False
theorem pv_extend (ha : PV X S0 H0 a fa) (hb : PVs X S0 H0 [e] fs) (hbase : attributeBase a "extend" X.env (eval a X.env) = eval a X.env := by rfl)
    (hfew : ((backTo cpos (starEach [e] X.env)).all (fun x => !x.1) && (backToKw cpos (keywordEach [] X.env)).all (fun x => x.1.isSome) && decide ([e].length + ([] : List Keyword).length + (if ([] : List Keyword).isEmpty then 0 else 1) < 30)) = true := by rfl)
    (hline : (apos.endLine == cpos.line) = true := by rfl) (hs : starEach [e] X.env = (false, eval e X.env) :: starEach [] X.env := by rfl) (hplain : (backTo cpos (starEach [] X.env)).any (·.1) = false := by rfl) :
    PV X S0 H0 (.Call (.Attribute a "extend" apos) [e] [] cpos) (fMeth ckL oExtend fa fs) := by
  have m : ∀ x ps S Q Q', (∀ p S', Q p S' → Q' p S') → oExtend x ps S Q → oExtend x ps S Q' := fun x ps S Q Q' i q => by
    unfold oExtend at q ⊢
    split at q
    · split at q
      · exact ⟨q.1, i _ _ q.2⟩
      · exact q
    · exact q
  refine ⟨fMeth_mono m ha hb, PE.imp (pe_bm PySem.F.plainAttrs_list PySem.F.slot_list_extend PySem.F.type_list_extend mt_extend ha.pe hb.pa hbase hfew hline hs hplain) fun σ H Q h => lift_meth (fun S x v H rs r h => ckL_ty rs r h) (fun x ps S Qp v vs H Q rv rvs rs h k => ?_) ha hb h⟩
  unfold oExtend at h
  split at h
  · split at h
    · rename_i xs ys e1 e2
      obtain ⟨h3, h5⟩ := h
      obtain ⟨us, hu, ru⟩ := rs _ _ e1
      obtain ⟨pv, rfl, rp⟩ := rvs.one
      obtain ⟨b, ws, rfl, hw, rw'⟩ := rdM_rep rs rp e2
      refine ⟨_, b, us, ws, rv, rfl, hu, hw, by rw [ru.len, rw'.len]; exact h3, ?_⟩
      exact k _ _ _ _ h5 rfl (rs.chg e1 (ru.app rw')) (Ext.chg e1)
    · exact h.elim
  · exact h.elim
end
end PL

/-! name = {k: v for ..} on one line. -/
namespace PL
open PySem PySem.Spec PyProof.Rows L2
section
variable {X : Cx} {S0 : Sto} {H0 : Hp} {pos : Pos}
theorem ps_setDc {i : Nat} {y : Str} {py : Pos} {kx vx tg iter : Expr} {ifs : List Expr} {scope : Scope} {own : List (Str × Nat)} {pos spos : Pos} {wi : TI} {g : TG} {tt : TT} {tk tv : TE} (hc : X.calm = true) (hN : X.N.Nodup) (hy : X.N[i]? = some y) (hyl : X.env.scope.names.lookup y = some .local)
    (hsw : swapsWith (.DictComp kx vx [⟨tg, iter, ifs, 0⟩] scope pos) (some (.Name y py)) spos.line X.env = pure true) (hi : PI X tg iter wi) (ok : BlkOk X.N X.env.scope scope own)
    (hg : ∀ (s : Shared) (H : Hp) (C : Addr) (cl : List (Str × Addr)) (fp : List Addr), PG (X.blk s H scope (compEnvC scope cl C X.env) fp) tg g) (ht : ∀ (s : Shared) (H : Hp) (C : Addr) (cl : List (Str × Addr)) (fp : List Addr), PTs (X.blk s H scope (compEnvC scope cl C X.env) fp) ifs tt)
    (hk : ∀ (s : Shared) (H : Hp) (C : Addr) (cl : List (Str × Addr)) (fp : List Addr), PE (X.blk s H scope (compEnvC scope cl C X.env) fp) kx tk)
    (he : ∀ (s : Shared) (H : Hp) (C : Addr) (cl : List (Str × Addr)) (fp : List Addr), PE (X.blk s H scope (compEnvC scope cl C X.env) fp) vx tv) (hs : ∀ x, foldedSetIterable iter X.env x = pure x := by intro _; rfl) :
    PS X (.Assign [.Name y py] (.DictComp kx vx [⟨tg, iter, ifs, 0⟩] scope pos) spos) (tAsg (tDc wi g tt tk tv (own.map (·.2))) (gName i)) := by
  refine ⟨fun pins s σ H D I h => ?_⟩
  rw [exec_Assign_Name_used _ _ _ _ hsw]
  refine wpAny_bind (wpAny_standAt (wpAny_bind ?_))
  show wpAny _ X.A (do let _ ← comprehension (.DictComp kx vx [⟨tg, iter, ifs, 0⟩] scope pos) scope X.env (firstIterPos [⟨tg, iter, ifs, 0⟩] pos) newDict false (eval iter X.env) (some (assign (.Name y py) X.env))) _ _ s
  have h : tDc wi g tt tk tv (own.map (·.2)) σ H (fun x H1 => gName i x σ H1 D.nx) := h
  refine wpAny_bind (thn (dc_core (Qf := fun _ s' => SP X pins D .next s') hc hN I hi ok hg ht hk he hs h fun L C s' m H' I' q hn f => ?_) fun _ s' hq => wpAny_pure (wpAny_pure hq))
  show wpAny _ _ (assign (.Name y py) X.env (.ref L)) _ _ _
  refine wpAny_assign_Name (store_ok2 (v := V.ref L) I' hN hy (.inl hyl) rfl (fun s2 I2 ⟨a, sb, ha⟩ => ?_) (.inr hyl))
  obtain ⟨f0, f1, f2, f3, f4, f5⟩ := f
  have haC : C ≠ a := by
    rcases ha with z | z
    · rw [z]; exact f1
    · exact fun e => f4 y a z e.symm
  refine ⟨m, hn.sameBut sb haC, fun h3 sb3 => ?_⟩
  exact ⟨_, H', I2.turned (t' := s2.toks) (fun b o hb e => (sb3.2 b hb).trans e) f0 f1 f3 f4 f5, q⟩
theorem sw_trueD {kx vx : Expr} {gs : List Comprehension} {scope : Scope} {pos py : Pos} {y : Str} {l : Nat} {env : Env} (hk : env.scope.kind = .function) (hy : env.scope.names.lookup y = some .local) (hl : (py.line == pos.line) = true)
    (ha : (scope.names.any fun (n, k) => n == y && (k == .local || k == .cell)) = false) : swapsWith (.DictComp kx vx gs scope pos) (some (.Name y py)) l env = pure true := by
  have ky : env.kindOf y = some .local := hy
  have hb : env.blockKind = .function := by unfold Env.blockKind; rw [hk]; rfl
  unfold swapsWith
  simp only [hb, ky, ha, Expr.pos, hl]
  rfl
variable {kx vx tg iter : Expr} {ifs : List Expr} {scope : Scope} {fi : PFI} {t : Tg} {tt : PFB} {tk tv : PF}
theorem pz_setDc (i : Nat) {y : Str} {py spos : Pos} (own : List (Str × Nat)) (hc : X.calm = true) (hN : X.N.Nodup) (hi : PIt X S0 H0 tg iter fi) (ok : BlkOk X.N X.env.scope scope own) (hg : Blk X scope fun Y => PG Y tg (tgR X.K t)) (ht : Blk X scope fun Y => PBs Y S0 H0 ifs tt) (hk : Blk X scope fun Y => PV Y S0 H0 kx tk) (he : Blk X scope fun Y => PV Y S0 H0 vx tv)
    (hsw : swapsWith (.DictComp kx vx [⟨tg, iter, ifs, 0⟩] scope pos) (some (.Name y py)) spos.line X.env = pure true)
    (hy : X.N[i]? = some y := by rfl) (hyl : X.env.scope.names.lookup y = some .local := by rfl) (hv : ∀ i ∈ slotsT t, i ∈ own.map (·.2) := by decide) (hs : ∀ x, foldedSetIterable iter X.env x = pure x := by intro _; rfl) : PZ X S0 H0 (.Assign [.Name y py] (.DictComp kx vx [⟨tg, iter, ifs, 0⟩] scope pos) spos) (gSet i (fDc fi t tt tk tv (own.map (·.2)))) := by
  have m1 := (ht X.s_0 X.H_0 0 [] []).mono
  have m2 := (hk X.s_0 X.H_0 0 [] []).mono
  have m3 := (he X.s_0 X.H_0 0 [] []).mono
  refine ⟨fun D D' ρ S l q => hi.mono _ _ _ _ (fun its gd S1 q D1 hD => dcW_mono m1 m2 m3 (fun _ _ _ q => l.1 _ _ q) its [] [] S1 (q D1 hD)) q, PS.imp (ps_setDc (tk := lift X.K S0 H0 tk) (tv := lift X.K S0 H0 tv) (tt := liftB X.K S0 H0 tt) hc hN hy hyl hsw hi.pi ok hg (fun s H C cl fp => (ht s H C cl fp).pts) (fun s H C cl fp => (hk s H C cl fp).pe) (fun s H C cl fp => (he s H C cl fp).pe) hs) fun D σ H ⟨ρ, S, re, rs, ex, q⟩ => ?_⟩
  refine dc_sim hi hv m1 m2 m3 re rs ex q fun L ks xs S' H' g hn rs' e' => ?_
  obtain ⟨kvs, e1, r1, r2⟩ := rs' L _ put_same
  have sb : Sub S' (put S' L (.dct ks xs)) := Sub.put hn
  have a1 : RepV X.K H' S' (.dct ks xs) (.ref L) := ⟨L, kvs, rfl, .inl e1, hn, r1.sub sb, r2.sub sb⟩
  have a3 := e'.sub sb
  exact g _ H' ((re.ext rs a3).set i a1) (rs'.sub sb) a3
end
end PL

/-! Frames: sizes over one bottom; ways to the ground: plain. -/
namespace PL
open PySem PySem.Spec PyProof.Rows L2
open PySem.W (dataLe dataLt alike AllAlike EachIs)
/-- q is a whole number of less than b bits over D -/
def Fc (D : Int) (b : Nat) (q : Rat) : Prop := ∃ n : Int, q * (D : Rat) = (n : Rat) ∧ n.natAbs < 2 ^ b
theorem Fc.up {D : Int} {b c : Nat} {q : Rat} (h : Fc D b q) (l : b ≤ c) : Fc D c q := by
  obtain ⟨n, h1, h2⟩ := h
  exact ⟨n, h1, Nat.lt_of_lt_of_le h2 (Nat.pow_le_pow_right (by decide) l)⟩
theorem Fc.zero (D : Int) (b : Nat) : Fc D b 0 := ⟨0, by rw [Rat.zero_mul]; rfl, Nat.pow_pos (by decide)⟩
theorem Fc.mul {D E : Int} {b c : Nat} {p q : Rat} (h : Fc D b p) (h' : Fc E c q) : Fc (D * E) (b + c) (p * q) := by
  obtain ⟨n, h1, h2⟩ := h
  obtain ⟨m, h3, h4⟩ := h'
  refine ⟨n * m, ?_, ?_⟩
  · rw [Rat.intCast_mul, Rat.intCast_mul, ← h1, ← h3]
    grind
  · rw [Int.natAbs_mul, Nat.pow_add]
    exact Nat.mul_lt_mul'' h2 h4
theorem Fc.lift {D E : Int} {b c : Nat} {p : Rat} (h : Fc D b p) (h' : E.natAbs < 2 ^ c) : Fc (D * E) (b + c) p := by
  obtain ⟨n, h1, h2⟩ := h
  refine ⟨n * E, ?_, ?_⟩
  · rw [Rat.intCast_mul, Rat.intCast_mul, ← h1]
    grind
  · rw [Int.natAbs_mul, Nat.pow_add]
    exact Nat.mul_lt_mul'' h2 h'
theorem Fc.add {D : Int} {b : Nat} {p q : Rat} (h : Fc D b p) (h' : Fc D b q) : Fc D (b + 1) (p + q) := by
  obtain ⟨n, h1, h2⟩ := h
  obtain ⟨m, h3, h4⟩ := h'
  refine ⟨n + m, ?_, ?_⟩
  · rw [Rat.intCast_add, ← h1, ← h3]
    grind
  · rw [Nat.pow_succ]
    omega
theorem Fc.neg {D : Int} {b : Nat} {p : Rat} (h : Fc D b p) : Fc D b (0 - p) := by
  obtain ⟨n, h1, h2⟩ := h
  refine ⟨0 - n, ?_, by omega⟩
  rw [Rat.intCast_sub, ← h1]
  grind
theorem Fc.sz {D : Int} {b : Nat} {q : Rat} (h : Fc D b q) (h0 : D ≠ 0) (hD : D.natAbs < 2 ^ b) : Sz b q := by
  obtain ⟨n, h1, h2⟩ := h
  have hne : (D : Rat) ≠ 0 := fun z => h0 (Rat.intCast_eq_zero_iff.mp z)
  have e : q = Rat.divInt n D := by
    rw [Rat.divInt_eq_div, ← h1, Rat.div_def, Rat.mul_assoc, Rat.mul_inv_cancel _ hne, Rat.mul_one]
  rw [e]
  exact divInt_sz h0 h2 hD
theorem Fc.self (q : Rat) {b : Nat} (h : Sz b q) : Fc q.den b q := by
  refine ⟨q.num, ?_, h.1⟩
  have e := Rat.num_divInt_den q
  rw [Rat.divInt_eq_div] at e
  have hne : ((q.den : Int) : Rat) ≠ 0 := fun z => den_ne q (Rat.intCast_eq_zero_iff.mp z)
  have e2 : (q.num : Rat) / ((q.den : Int) : Rat) * ((q.den : Int) : Rat) = q * ((q.den : Int) : Rat) := congrArg (· * ((q.den : Int) : Rat)) e
  rw [← e2, Rat.div_def, Rat.mul_assoc, Rat.inv_mul_cancel _ hne, Rat.mul_one]
structure CsP (b : Nat) (p : Rat × Rat) : Prop where
  h : ∃ D : Int, D ≠ 0 ∧ D.natAbs < 2 ^ b ∧ Fc D b p.1 ∧ Fc D b p.2
structure CsM (b : Nat) (w : Mp) : Prop where
  h : ∃ D : Int, D ≠ 0 ∧ D.natAbs < 2 ^ b ∧ (Fc D b w.a ∧ Fc D b w.b ∧ Fc D b w.c ∧ Fc D b w.d) ∧ Fc D b w.e ∧ Fc D b w.f
theorem pw_up {D : Int} {b c : Nat} (h : D.natAbs < 2 ^ b) (l : b ≤ c) : D.natAbs < 2 ^ c := Nat.lt_of_lt_of_le h (Nat.pow_le_pow_right (by decide) l)
theorem CsP.up {b c : Nat} {p : Rat × Rat} (h : CsP b p) (l : b ≤ c) : CsP c p := by
  obtain ⟨D, h1, h2, h3, h4⟩ := h.h
  exact ⟨D, h1, pw_up h2 l, h3.up l, h4.up l⟩
theorem CsM.up {b c : Nat} {p : Mp} (h : CsM b p) (l : b ≤ c) : CsM c p := by
  obtain ⟨D, h1, h2, ⟨h3, h4, h5, h6⟩, h7, h8⟩ := h.h
  exact ⟨D, h1, pw_up h2 l, ⟨h3.up l, h4.up l, h5.up l, h6.up l⟩, h7.up l, h8.up l⟩
theorem CsP.sz {b : Nat} {p : Rat × Rat} (h : CsP b p) : SzP b p := by
  obtain ⟨D, h1, h2, h3, h4⟩ := h.h
  exact ⟨h3.sz h1 h2, h4.sz h1 h2⟩
theorem CsM.sz {b : Nat} {w : Mp} (h : CsM b w) : SzM b w := by
  obtain ⟨D, h1, h2, ⟨h3, h4, h5, h6⟩, h7, h8⟩ := h.h
  exact ⟨h3.sz h1 h2, h4.sz h1 h2, h5.sz h1 h2, h6.sz h1 h2, h7.sz h1 h2, h8.sz h1 h2⟩
theorem mul_lt2 {D E : Int} {b c : Nat} (h : D.natAbs < 2 ^ b) (h' : E.natAbs < 2 ^ c) : (D * E).natAbs < 2 ^ (b + c) := by
  rw [Int.natAbs_mul, Nat.pow_add]
  exact Nat.mul_lt_mul'' h h'
theorem CsP.of {b : Nat} {p : Rat × Rat} (h : SzP b p) : CsP (b + b) p := by
  have h1 : ((p.1.den : Nat) : Int).natAbs < 2 ^ b := h.1.2
  have h2 : ((p.2.den : Nat) : Int).natAbs < 2 ^ b := h.2.2
  refine ⟨(p.1.den : Int) * p.2.den, Int.mul_ne_zero (den_ne _) (den_ne _), mul_lt2 h1 h2, (Fc.self p.1 h.1).lift h2, ?_⟩
  rw [Int.mul_comm]
  exact (Fc.self p.2 h.2).lift h1
theorem Fc.led {D E : Int} {b c : Nat} {a x b' y e : Rat} (ha : Fc D b a) (hb : Fc D b b') (he : Fc D b e) (hx : Fc E c x) (hy : Fc E c y) (hE : E.natAbs < 2 ^ c) : Fc (D * E) (b + c + 2) (a * x + b' * y + e) :=
  ((ha.mul hx).add (hb.mul hy)).add ((he.lift hE).up (by omega))
theorem CsP.led {b c : Nat} {w : Mp} {p : Rat × Rat} (h : CsM b w) (h' : CsP c p) : CsP (b + c + 2) (ledR w p) := by
  obtain ⟨D, h1, h2, ⟨h3, h4, h5, h6⟩, h7, h8⟩ := h.h
  obtain ⟨E, g1, g2, g3, g4⟩ := h'.h
  exact ⟨D * E, Int.mul_ne_zero h1 g1, pw_up (mul_lt2 h2 g2) (by omega), Fc.led h3 h4 h7 g3 g4 g2, Fc.led h5 h6 h8 g3 g4 g2⟩
theorem CsM.join {b c : Nat} {w o : Mp} (h : CsM b w) (h' : CsM c o) : CsM (b + c + 2) (joinR w o) := by
  obtain ⟨D, h1, h2, ⟨h3, h4, h5, h6⟩, h7, h8⟩ := h.h
  obtain ⟨E, g1, g2, ⟨g3, g4, g5, g6⟩, g7, g8⟩ := h'.h
  refine ⟨E * D, Int.mul_ne_zero g1 h1, pw_up (mul_lt2 g2 h2) (by omega), ⟨?_, ?_, ?_, ?_⟩, ?_, ?_⟩
  · exact (Fc.led g3 g4 (Fc.zero _ _) h3 h5 h2).up (by omega)
  · exact (Fc.led g3 g4 (Fc.zero _ _) h4 h6 h2).up (by omega)
  · exact (Fc.led g5 g6 (Fc.zero _ _) h3 h5 h2).up (by omega)
  · exact (Fc.led g5 g6 (Fc.zero _ _) h4 h6 h2).up (by omega)
  · exact (Fc.led g3 g4 g7 h7 h8 h2).up (by omega)
  · exact (Fc.led g5 g6 g8 h7 h8 h2).up (by omega)
theorem div_own {q own : Rat} {D no : Int} (hn : own ≠ 0) (ho : own * ((D * D : Int) : Rat) = (no : Rat)) : q / own * (no : Rat) = q * (D : Rat) * (D : Rat) := by
  rw [← ho, Rat.intCast_mul, Rat.div_def]
  have := Rat.mul_inv_cancel own hn
  grind
theorem CsM.back {b : Nat} {w : Mp} (h : CsM b w) (hn : ownR w ≠ 0) : CsM (2 * b + 1) (backR w) := by
  obtain ⟨D, h1, h2, ⟨⟨na, a1, a2⟩, ⟨nb, b1, b2⟩, ⟨nc, c1, c2⟩, nd, d1, d2⟩, ⟨ne, e1, e2⟩, nf, f1, f2⟩ := h.h
  have hD : (D : Rat) ≠ 0 := fun z => h1 (Rat.intCast_eq_zero_iff.mp z)
  have ho : ownR w * ((D * D : Int) : Rat) = ((na * nd - nb * nc : Int) : Rat) := by
    unfold ownR
    rw [Rat.intCast_sub, Rat.intCast_mul, Rat.intCast_mul, Rat.intCast_mul, ← a1, ← b1, ← c1, ← d1]
    grind
  have hno : na * nd - nb * nc ≠ 0 := by
    intro z
    rw [z] at ho
    rcases Rat.mul_eq_zero.mp ho with z | z
    · exact hn z
    · rw [Rat.intCast_mul] at z
      rcases Rat.mul_eq_zero.mp z with z | z <;> exact hD z
  have pp : ∀ x y : Int, x.natAbs < 2 ^ b → y.natAbs < 2 ^ b → (x * y).natAbs < 2 ^ (2 * b) := fun x y hx hy => by
    have := mul_lt2 hx hy
    rwa [show b + b = 2 * b by omega] at this
  have pp2 : ∀ x y : Int, x.natAbs < 2 ^ (2 * b) → y.natAbs < 2 ^ (2 * b) → (x - y).natAbs < 2 ^ (2 * b + 1) := fun x y hx hy => by
    rw [Nat.pow_succ]
    omega
  have k := fun (q : Rat) => div_own (q := q) hn ho
  generalize hz : na * nd - nb * nc = no at *
  refine ⟨no, hno, by rw [← hz]; exact pp2 _ _ (pp _ _ a2 d2) (pp _ _ b2 c2), ⟨⟨nd * D, ?_, pw_up (pp _ _ d2 h2) (by omega)⟩, ⟨0 - nb * D, ?_, ?_⟩, ⟨0 - nc * D, ?_, ?_⟩, na * D, ?_, pw_up (pp _ _ a2 h2) (by omega)⟩, ⟨0 - (nd * ne - nb * nf), ?_, ?_⟩, 0 - (na * nf - nc * ne), ?_, ?_⟩
  · show w.d / ownR w * _ = _
    rw [k, Rat.intCast_mul, ← d1]
  · show (0 - w.b / ownR w) * _ = _
    have := k w.b
    rw [Rat.intCast_sub, Rat.intCast_mul, ← b1, ← this]
    grind
  · have := pp _ _ b2 h2
    have := pw_up this (show 2 * b ≤ 2 * b + 1 by omega)
    omega
  · show (0 - w.c / ownR w) * _ = _
    have := k w.c
    rw [Rat.intCast_sub, Rat.intCast_mul, ← c1, ← this]
    grind
  · have := pp _ _ c2 h2
    have := pw_up this (show 2 * b ≤ 2 * b + 1 by omega)
    omega
  · show w.a / ownR w * _ = _
    rw [k, Rat.intCast_mul, ← a1]
  · show (0 - (w.d / ownR w * w.e + (0 - w.b / ownR w) * w.f + 0)) * _ = _
    have k1 := k w.d
    have k2 := k w.b
    rw [Rat.intCast_sub, Rat.intCast_sub, Rat.intCast_mul, Rat.intCast_mul, ← d1, ← e1, ← b1, ← f1]
    grind
  · have := pp2 _ _ (pp _ _ d2 e2) (pp _ _ b2 f2)
    omega
  · show (0 - ((0 - w.c / ownR w) * w.e + w.a / ownR w * w.f + 0)) * _ = _
    have k1 := k w.a
    have k2 := k w.c
    rw [Rat.intCast_sub, Rat.intCast_sub, Rat.intCast_mul, Rat.intCast_mul, ← a1, ← e1, ← c1, ← f1]
    grind
  · have := pp2 _ _ (pp _ _ a2 f2) (pp _ _ c2 e2)
    omega
/-! ### maps one behind the other -/
def idM : Mp := ⟨1, 0, 0, 1, 0, 0⟩
theorem idM_cs : CsM 1 idM := by
  have o : Fc 1 1 1 := ⟨1, by rw [Rat.one_mul], by decide⟩
  exact ⟨1, by decide, by decide, ⟨o, Fc.zero _ _, Fc.zero _ _, o⟩, Fc.zero _ _, Fc.zero _ _⟩
theorem led_join (w o : Mp) (p : Rat × Rat) : ledR (joinR w o) p = ledR o (ledR w p) := by
  apply Prod.ext <;> (simp only [ledR, joinR, strR]; grind)
theorem own_join (w o : Mp) : ownR (joinR w o) = ownR w * ownR o := by
  simp only [ownR, joinR, strR, ledR]
  grind
theorem led_id (p : Rat × Rat) : ledR idM p = p := by
  apply Prod.ext <;> (simp only [ledR, idM]; grind)
theorem led_back {w : Mp} (h : ownR w ≠ 0) (p : Rat × Rat) : ledR (backR w) (ledR w p) = p := by
  have := Rat.mul_inv_cancel _ h
  have e : ownR w = w.a * w.d - w.b * w.c := rfl
  apply Prod.ext <;> (simp only [ledR, backR, turnedR, Rat.div_def]; grind)
theorem led_forth {w : Mp} (h : ownR w ≠ 0) (p : Rat × Rat) : ledR w (ledR (backR w) p) = p := by
  have := Rat.mul_inv_cancel _ h
  have e : ownR w = w.a * w.d - w.b * w.c := rfl
  apply Prod.ext <;> (simp only [ledR, backR, turnedR, Rat.div_def]; grind)
/-- all the ways, one behind the other -/
def toG (ws : List Mp) : Mp := ws.foldl joinR idM
theorem toG_snoc (ws : List Mp) (w : Mp) : toG (ws ++ [w]) = joinR (toG ws) w := by
  unfold toG
  rw [List.foldl_append]
  rfl
def WsOk (ws : List Mp) : Prop := ∀ w ∈ ws, ownR w ≠ 0 ∧ CsM 90 w
theorem WsOk.app {xs ys : List Mp} (h : WsOk (xs ++ ys)) : WsOk xs ∧ WsOk ys := ⟨fun w hw => h w (List.mem_append_left _ hw), fun w hw => h w (List.mem_append_right _ hw)⟩
theorem snoc_ind {α : Type} {P : List α → Prop} (h0 : P []) (h1 : ∀ l a, P l → P (l ++ [a])) : ∀ l, P l := by
  intro l
  rw [← List.reverse_reverse l]
  induction l.reverse with
  | nil => exact h0
  | cons a l ih => rw [List.reverse_cons]; exact h1 _ _ ih
theorem toG_cs : ∀ ws : List Mp, WsOk ws → CsM (1 + 92 * ws.length) (toG ws) := by
  refine snoc_ind (fun _ => idM_cs) fun ws w ih h => ?_
  rw [toG_snoc, List.length_append]
  exact ((ih h.app.1).join (h w (by simp)).2).up (by show _ ≤ 1 + 92 * (ws.length + 1); omega)
theorem toG_own : ∀ ws : List Mp, WsOk ws → ownR (toG ws) ≠ 0 := by
  refine snoc_ind (fun _ => by show ownR idM ≠ 0; decide +kernel) fun ws w ih h => ?_
  rw [toG_snoc, own_join]
  intro z
  rcases Rat.mul_eq_zero.mp z with z | z
  · exact ih h.app.1 z
  · exact (h w (by simp)).1 z
theorem toG_led (p : Rat × Rat) : ∀ ws : List Mp, ledR (toG ws) p = ws.foldl (fun p w => ledR w p) p := by
  refine snoc_ind (led_id p) fun ws w ih => ?_
  rw [toG_snoc, led_join, ih, List.foldl_append]
  rfl
/-- back, the last way first -/
def framedR (ws : List Mp) (p : Rat × Rat) : Rat × Rat := ws.reverse.foldl (fun p w => ledR (backR w) p) p
theorem framed_eq (p : Rat × Rat) : ∀ ws : List Mp, WsOk ws → framedR ws p = ledR (backR (toG ws)) p := by
  have key : ∀ (ws : List Mp) (p : Rat × Rat), WsOk ws → ledR (toG ws) (framedR ws p) = p := by
    refine snoc_ind (fun p _ => led_id p) fun ws w ih p h => ?_
    have e : framedR (ws ++ [w]) p = framedR ws (ledR (backR w) p) := by
      unfold framedR
      rw [List.reverse_append]
      rfl
    rw [e, toG_snoc, led_join, ih _ h.app.1]
    exact led_forth (h w (by simp)).1 p
  intro ws h
  have := led_back (toG_own ws h) (framedR ws p)
  rw [key ws p h] at this
  exact this.symm
theorem grounded_cs {c : Nat} {p : Rat × Rat} (hp : CsP c p) : ∀ ws : List Mp, WsOk ws → CsP (c + 92 * ws.length) (ws.foldl (fun p w => ledR w p) p) := by
  refine snoc_ind (fun _ => hp) fun ws w ih h => ?_
  rw [List.foldl_append, List.length_append]
  exact (CsP.led (h w (by simp)).2 (ih h.app.1)).up (by show _ ≤ c + 92 * (ws.length + 1); omega)
theorem framed_cs {c : Nat} : ∀ (ws : List Mp) (p : Rat × Rat), CsP c p → WsOk ws → CsP (c + 183 * ws.length) (ws.foldl (fun p w => ledR (backR w) p) p) := by
  refine snoc_ind (fun p hp _ => hp) fun ws w ih p hp h => ?_
  rw [List.foldl_append, List.length_append]
  exact (CsP.led ((h w (by simp)).2.back (h w (by simp)).1) (ih p hp h.app.1)).up (by show _ ≤ c + 183 * (ws.length + 1); omega)
/-! ### frames -/
abbrev Fr := Str × Str × Mp
def frmP (f : Fr) : Pv := .tup [.str f.1, .str f.2.1, mp f.2.2]
abbrev gndS : Str := "ground"
inductive Path (fs : List Fr) : Str → List Mp → Prop
  | home : Path fs gndS []
  | step {f : Fr} {ws : List Mp} : f ∈ fs → Path fs f.2.1 ws → Path fs f.1 (f.2.2 :: ws)
theorem Path.more {fs gs : List Fr} (h : ∀ f ∈ fs, f ∈ gs) {n : Str} {ws : List Mp} (p : Path fs n ws) : Path gs n ws := by
  induction p with
  | home => exact .home
  | step hf _ ih => exact .step (h _ hf) ih
structure FsOk (fs : List Fr) : Prop where
  len : fs.length ≤ 6
  rise : (fs.map (·.1)).Pairwise fun a b => strLt a b = true
  word : ∀ f ∈ fs, wordS f.1 = true ∧ f.1 ≠ gndS
  way : ∀ f ∈ fs, ownR f.2.2 ≠ 0 ∧ CsM 90 f.2.2
  path : ∀ f ∈ fs, ∃ ws, Path fs f.1 ws ∧ ws.length ≤ fs.length
  other : ∀ f ∈ fs, f.2.1 = gndS ∨ f.2.1 ∈ fs.map (·.1)
def isNm (fs : List Fr) (n : Str) : Prop := n = gndS ∨ n ∈ fs.map (·.1)
theorem FsOk.nd {fs : List Fr} (h : FsOk fs) : (fs.map (·.1)).Nodup := h.rise.imp fun {a b} z e => by
  rw [e, strLt_irr] at z
  cases z
theorem Path.ok {fs : List Fr} (h : FsOk fs) {n : Str} {ws : List Mp} (p : Path fs n ws) : WsOk ws := by
  induction p with
  | home => intro w hw; cases hw
  | step hf _ ih =>
    intro w hw
    rcases List.mem_cons.mp hw with rfl | hw
    · exact h.way _ hf
    · exact ih w hw
theorem FsOk.has {fs : List Fr} (h : FsOk fs) {n : Str} (hn : isNm fs n) : ∃ ws, Path fs n ws ∧ ws.length ≤ fs.length := by
  rcases hn with rfl | hn
  · exact ⟨[], .home, Nat.zero_le _⟩
  · obtain ⟨f, hf, rfl⟩ := List.mem_map.mp hn
    exact h.path f hf
theorem nd_eq {fs : List Fr} (h : (fs.map (·.1)).Nodup) {f g : Fr} (hf : f ∈ fs) (hg : g ∈ fs) (e : f.1 = g.1) : f = g := by
  induction fs with
  | nil => cases hf
  | cons x fs ih =>
    rw [List.map_cons, List.nodup_cons] at h
    rcases List.mem_cons.mp hf with e1 | hf' <;> rcases List.mem_cons.mp hg with e2 | hg'
    · rw [e1, e2]
    · exact (h.1 (List.mem_map.mpr ⟨g, hg', by rw [← e, e1]⟩)).elim
    · exact (h.1 (List.mem_map.mpr ⟨f, hf', by rw [e, e2]⟩)).elim
    · exact ih h.2 hf' hg'
theorem Path.inv {fs : List Fr} {n : Str} {ws : List Mp} (p : Path fs n ws) (hn : n ≠ gndS) : ∃ f ∈ fs, ∃ vs, f.1 = n ∧ ws = f.2.2 :: vs ∧ Path fs f.2.1 vs := by
  cases p with
  | home => exact absurd rfl hn
  | step hf q => exact ⟨_, hf, _, rfl, rfl, q⟩
theorem Path.home' {fs : List Fr} (h : FsOk fs) {ws : List Mp} (p : Path fs gndS ws) : ws = [] := by
  generalize hz : gndS = n at p
  cases p with
  | home => rfl
  | step hf _ => exact absurd hz.symm (h.word _ hf).2
theorem getK_str {α : Type} (nf : α → Str) (vf : α → Pv) (r : Str) : ∀ zs : List α, getK (zs.map fun z => .str (nf z)) (zs.map vf) (.str r) = (zs.find? fun z => decide (nf z = r)).map vf
  | [] => rfl
  | z :: zs => by
    show (if kyP (.str (nf z)) = kyP (.str r) then some (vf z) else getK (zs.map fun z => .str (nf z)) (zs.map vf) (.str r)) = _
    by_cases h : nf z = r
    · rw [if_pos (by rw [h]), List.find?_cons_of_pos (by exact decide_eq_true h)]
      rfl
    · rw [if_neg (fun e => h (by simpa [kyP] using e)), List.find?_cons_of_neg (by simpa using h), getK_str nf vf r zs]
theorem find_fr {fs : List Fr} (h : (fs.map (·.1)).Nodup) {f : Fr} (hf : f ∈ fs) : (fs.find? fun z => decide (z.1 = f.1)) = some f := by
  cases e : fs.find? fun z => decide (z.1 = f.1) with
  | none =>
    have := List.find?_eq_none.mp e f hf
    simp at this
  | some g =>
    have h1 := List.mem_of_find?_eq_some e
    have h2 : g.1 = f.1 := by simpa using List.find?_some e
    rw [nd_eq h h1 hf h2]
theorem find_none {fs : List Fr} {n : Str} (h : n ∉ fs.map (·.1)) : (fs.find? fun z => decide (z.1 = n)) = none := by
  refine List.find?_eq_none.mpr fun g hg => ?_
  have : g.1 ≠ n := fun e => h (List.mem_map.mpr ⟨g, hg, e⟩)
  simpa using this
/-- distinct keys -/
theorem mgD_new : ∀ (ms ys ks xs : List Pv), ms.length = ys.length → (∀ k ∈ ms, (kyP k).isSome = true) → (∀ k ∈ ks, (kyP k).isSome = true) → (ks ++ ms).Nodup → mgD ks xs ms ys = (ks ++ ms, xs ++ ys)
  | [], [], ks, xs, _, _, _, _ => by simp [mgD]
  | [], _ :: _, _, _, h, _, _, _ => by cases h
  | _ :: _, [], _, _, h, _, _, _ => by cases h
  | k :: ms, y :: ys, ks, xs, h, hk, hks, nd => by
    have hn : k ∉ ks := fun z => by
      rw [List.nodup_append] at nd
      exact nd.2.2 k z k List.mem_cons_self rfl
    have inj : ∀ a b : Pv, (kyP a).isSome = true → kyP a = kyP b → a = b := fun a b ha e => by
      cases a with
      | int i => cases b with
        | int j => simp only [kyP, Option.some.injEq, Sum.inl.injEq] at e; rw [e]
        | _ => simp [kyP] at e
      | str i => cases b with
        | str j => simp only [kyP, Option.some.injEq, Sum.inr.injEq] at e; rw [e]
        | _ => simp [kyP] at e
      | _ => simp [kyP] at ha
    have ep : putD ks xs k y = (ks ++ [k], xs ++ [y]) := by
      unfold putD
      rw [if_neg]
      rw [List.any_eq_true]
      rintro ⟨z, hz, e⟩
      exact hn (by rw [← inj z k (hks z hz) (of_decide_eq_true e)]; exact hz)
    show mgD (putD ks xs k y).1 (putD ks xs k y).2 ms ys = _
    rw [ep]
    have e1 : ks ++ k :: ms = (ks ++ [k]) ++ ms := by simp
    have e2 : xs ++ y :: ys = (xs ++ [y]) ++ ys := by simp
    rw [e1, e2]
    refine mgD_new ms ys _ _ (by simpa using h) (fun z hz => hk z (List.mem_cons_of_mem _ hz)) (fun z hz => ?_) (by rw [← e1]; exact nd)
    rcases List.mem_append.mp hz with hz | hz
    · exact hks z hz
    · rw [List.mem_singleton.mp hz]
      exact hk k List.mem_cons_self
theorem mgD_fr {fs : List Fr} (h : (fs.map (·.1)).Nodup) (vf : Fr → Pv) : mgD [] [] (fs.map fun f => .str f.1) (fs.map vf) = (fs.map fun f => .str f.1, fs.map vf) := by
  refine mgD_new _ _ [] [] (by rw [List.length_map, List.length_map]) (fun k hk => ?_) (fun k hk => (by cases hk)) ?_
  · obtain ⟨f, _, rfl⟩ := List.mem_map.mp hk
    rfl
  · have := List.Pairwise.map (R := fun a b : Str => a ≠ b) (S := fun a b : Pv => a ≠ b) Pv.str (fun a b h e => h (Pv.str.inj e)) h
    rw [List.map_map] at this
    exact this
/-! ### frames that are drawn, in their order -/
def frLe (a b : Fr) : Bool := !dataLt (toD (frmP b)) (toD (frmP a))
theorem fr_lt (a b : Fr) (h : a.1 ≠ b.1) : dataLt (toD (frmP a)) (toD (frmP b)) = strLt a.1 b.1 := by
  show dataLt (.tuple (.str a.1 :: [.str a.2.1, toD (mp a.2.2)])) (.tuple (.str b.1 :: [.str b.2.1, toD (mp b.2.2)])) = _
  rw [PySem.W.dataLt_tuple, PySem.W.dataLt_cons (by simp [alike]), PySem.W.dataLt_str, if_neg]
  · rfl
  · show ¬ ((a.1 == b.1) = true)
    simpa using h
theorem fr_sort (fs : List Fr) : sortP (fs.map frmP) = (fs.mergeSort frLe).map frmP := by
  unfold sortP
  rw [List.map_mergeSort (s := dataLe false toD) (f := frmP)]
  intro a _ b _
  rfl
theorem fr_sortOk (fs : List Fr) : sortOk (fs.map frmP) := by
  refine ⟨isDs_map (fun _ => rfl) fs, ?_, .inl ?_, ?_⟩
  · intro d hd d' hd'
    simp only [List.map_map, List.mem_map, Function.comp_apply] at hd hd'
    obtain ⟨x, _, rfl⟩ := hd
    obtain ⟨y, _, rfl⟩ := hd'
    rfl
  · intro d hd
    simp only [List.map_map, List.mem_map, Function.comp_apply] at hd
    obtain ⟨x, _, rfl⟩ := hd
    exact ⟨_, _, rfl⟩
  · intro x hx
    obtain ⟨f, _, rfl⟩ := List.mem_map.mp hx
    show 3 ≤ 60
    decide
theorem fr_rise {fs : List Fr} (nd : (fs.map (·.1)).Nodup) : ((fs.mergeSort frLe).map (·.1)).Pairwise fun a b => strLt a b = true := by
  have pm := List.mergeSort_perm fs frLe
  have nd2 : ((fs.mergeSort frLe).map (·.1)).Nodup := (pm.map _).nodup_iff.mpr nd
  have hl : ∀ a ∈ fs, ∀ b ∈ fs, frLe a b = leS a.1 b.1 := by
    intro a ha b hb
    unfold frLe leS
    by_cases e : b.1 = a.1
    · rw [nd_eq nd hb ha e]
      have e0 : dataLt (toD (frmP a)) (toD (frmP a)) = false := by
        show dataLt (.tuple _) (.tuple _) = false
        rw [PySem.W.dataLt_tuple]
        exact lex_irrefl _
      rw [e0]
      exact (decide_eq_true (List.le_refl _)).symm
    · rw [fr_lt b a e]
      by_cases z : b.1.cps.toList < a.1.cps.toList
      · rw [(strLt_iff _ _).mpr z]
        exact (decide_eq_false fun y => absurd z y).symm
      · have z2 : strLt b.1 a.1 = false := by
          cases h : strLt b.1 a.1 with
          | false => rfl
          | true => exact absurd ((strLt_iff _ _).mp h) z
        rw [z2]
        exact (decide_eq_true z).symm
  have em : (fs.mergeSort frLe).map (·.1) = sortS (fs.map (·.1)) := by
    unfold sortS
    exact List.map_mergeSort hl
  have pw := sortS_pw (fs.map (·.1))
  rw [← em] at pw
  exact (pw.and nd2).imp fun {a b} ⟨z, ne⟩ => leS_lt z ne
end PL

/-! Set comprehensions of keys (after the way of HandS.SetBool): len({..}), sorted({..}). -/
namespace PLS
open PySem PySem.Spec PyProof.Rows L2 PpSet
section
variable {X : Cx} {pins : List (Addr × Obj)} {σ : L2.St} {H : Hp} {s : Shared} {m : Bool}
/-- set.add of a key -/
theorem addM_ok {E : Value → Shared → Prop} {D : Addr} {L : Vk} {k : NestedKey} {v : V} {u : Value} {Q : Value → Shared → Prop} (I : Inv X pins σ H s) (hD : H D = some (SetMO m X.w D L)) (hL : KVs m X.K H L) (hv : KV m X.K H k v) (r : RelV v u) (hu : X.A.units + 64 < cLine) (few : L.length + 1 < setLim m)
    (h : ∀ s' L', (k ∈ L.map (·.2) → L' = L) → (k ∉ L.map (·.2) → L'.Perm ((v, k) :: L)) → Inv X pins σ (upd H D (SetMO m X.w D L')) s' → Q .none s') : wpAny (model X.prog X.w) X.A (call (.builtin "set.add") [.ref D, u]) Q E s := by
  obtain ⟨L1, S, r1, r2⟩ := sm0_get I hD hL
  obtain ⟨o, es, ep, t, ho, hex, hd, _⟩ := S.ob
  have hT : s.TypeIs (.ref D) "set" := ⟨o, ho, hex.1⟩
  have hk : KM m s.heap k u := hv.km I r
  have hlen : L1.length = L.length := by
    have := congrArg List.length r2
    simpa using this
  refine wpAny_call_entry F.slot_set_add hT F.entry_set_add ?_ (F.args_set_add_2 _ _)
  unfold Builtin.«set.add» Builtin.Frozenset.oneOther
  simp only [List.isEmpty_nil, bind_assoc]
  unfold Builtin.Frozenset.addrOf
  refine wpAny_bind (wpAny_pure ?_)
  try dsimp only
  refine wpAny_bind (wpAny_pure ?_)
  try dsimp only
  refine wpAny_bind ?_
  refine addM S hk (by first | omega | (show X.A.units + 1 + 8 < cLine; omega)) (by rw [hlen]; exact few) fun b h' L1' tk htk sb S' c1 c2 => ?_
  show wpAny _ _ (ret Value.none) _ _ _
  refine wpAny_pure ⟨_, rfl, ?_⟩
  have he : ∃ u, h'.get? D = some u := by
    obtain ⟨o, _, _, _, ho, _⟩ := S'.ob
    exact ⟨o, ho⟩
  have fin : ∀ L' : Vk, Vals (L'.map (·.1)) (L1'.map (·.1)) → L1'.map (·.2) = L'.map (·.2) → Inv X pins σ (upd H D (SetMO m X.w D L')) { s with heap := h', toks := tk } := fun L' a1 a2 =>
    I.write (e := D) (t' := tk) (by rw [hD]; trivial) (.inl rfl) (fun b u hb hu => (sb.2 b hb).trans hu) he (setMO_new ⟨L1', h', S', fun o e => e, a1, a2⟩)
  rcases Classical.em (k ∈ L.map (·.2)) with c | c
  · refine h _ L (fun _ => rfl) (fun z => absurd c z) ?_
    have := c1 (by rw [r2]; exact c)
    subst this
    exact fin L r1 r2
  · have pm := c2 (by rw [r2]; exact c)
    obtain ⟨Z, e1, e2, hZ⟩ := perm_back r1 r2
    obtain ⟨Z2, e3, pz⟩ := perm_map (f := fun z : (V × NestedKey) × (Value × NestedKey) => z.2) pm (((v, k), (u, k)) :: Z) (by rw [List.map_cons, e2])
    have hZ2 : ∀ z ∈ Z2, RelV z.1.1 z.2.1 ∧ z.2.2 = z.1.2 := fun z hz => by
      rcases List.mem_cons.mp (pz.mem_iff.mp hz) with rfl | hz
      · exact ⟨r, rfl⟩
      · exact hZ z hz
    refine h _ (Z2.map (·.1)) (fun z => absurd z c) (fun _ => ?_) (fin _ ?_ ?_)
    · have := pz.map (·.1)
      rw [List.map_cons, ← e1] at this
      exact this
    · rw [e3, List.map_map, List.map_map]
      exact vals_map Z2 fun z hz => (hZ2 z hz).1
    · rw [e3, List.map_map, List.map_map]
      exact List.map_congr_left fun z hz => (hZ2 z hz).2
end
/-- y is put into the set at D -/
def AdM (K : PySem.W.Frag) (w : World) (m : Bool) (D : Addr) (y : V) (H : Hp) (Nx : Hp → Prop) : Prop := ∃ (k : NestedKey) (L : Vk), KV m K H k y ∧ H D = some (SetMO m w D L) ∧ KVs m K H L ∧ L.length + 1 < setLim m ∧ ∀ L', (k ∈ L.map (·.2) → L' = L) → (k ∉ L.map (·.2) → L'.Perm ((y, k) :: L)) → Nx (upd H D (SetMO m w D L'))
section
variable {X : Cx}
def tScM (K : PySem.W.Frag) (w : World) (wi : TI) (g : TG) (tt : TT) (te : TE) (vs : List Nat) : TE := fun σ H Q => wi σ H fun J H1 => ∀ D, H1 D = none → ∃ (md : Bool) (W : Nat → Nat → Hp → Prop), (∃ m, W 0 m (upd H1 D (SetMO md w D []))) ∧ ∀ i m H, W i m H →
  (J.stop i H ∧ Q (.ref D) H) ∨ (J.go i H ∧ ∃ Nx : Hp → Prop, (∀ H', Nx H' → ∃ m', m' < m ∧ W (i + 1) m' H') ∧ ∀ x H', J.yld i H x H' → g x (wipe σ vs) H' fun σ2 H2 => wipe σ2 vs = wipe σ vs ∧ tt σ2 H2 fun b H3 =>
    if b = true then te σ2 H3 fun y H4 => AdM K w md D y H4 Nx else Nx H3)
set_option maxHeartbeats 2000000 in
theorem scM_core {pins : List (Addr × Obj)} {s : Shared} {σ : L2.St} {H : Hp} {Q : VK} {elt tg iter : Expr} {ifs : List Expr} {scope : Scope} {own : List (PySem.Str × Nat)} {pos pos' : Pos} {wi : TI} {g : TG} {tt : TT} {te : TE} {use : Option (Value → Sem Unit)} {Qf : Value → Shared → Prop}
    (hc : X.calm = true) (hN : X.N.Nodup) (I : Inv X pins σ H s) (hi : PI X tg iter wi) (ok : BlkOk X.N X.env.scope scope own)
    (hg : ∀ (s : Shared) (H : Hp) (C : Addr) (cl : List (PySem.Str × Addr)) (fp : List Addr), PG (X.blk s H scope (compEnvC scope cl C X.env) fp) tg g) (ht : ∀ (s : Shared) (H : Hp) (C : Addr) (cl : List (PySem.Str × Addr)) (fp : List Addr), PTs (X.blk s H scope (compEnvC scope cl C X.env) fp) ifs tt)
    (he : ∀ (s : Shared) (H : Hp) (C : Addr) (cl : List (PySem.Str × Addr)) (fp : List Addr), PE (X.blk s H scope (compEnvC scope cl C X.env) fp) elt te) (hs : ∀ x, foldedSetIterable iter X.env x = pure x)
    (hu : X.A.units + 64 < cLine) (h : tScM X.K X.w wi g tt te (own.map (·.2)) σ H Q)
    (hRR : ∀ D C s' m H', Inv X pins σ H' s' → Q (.ref D) H' → s'.heap.Ns C m → FpOk X pins H' C → compPost (model X.prog X.w) X.A X.xe use Qf (.ref D) C (.ok .next) s') :
    wpAny (model X.prog X.w) X.A (comprehension (.SetComp elt [⟨tg, iter, ifs, 0⟩] scope pos) scope X.env pos' (newSet (.type "set")) false (eval iter X.env) use) Qf X.xe s := by
  have hfree : ∀ y ∈ scope.names, y.2 = .free → ∃ c, X.env.cells.lookup y.1 = some c := fun y hy e => by
    rcases ok.free y hy e with k | k
    · exact I.ok.has _ (.inl k)
    · exact I.ok.has _ (.inr k)
  refine wpAny_comprehension_free (use := use) rfl hs (closure_ok hfree) ok.kind (fun y hy e => by rw [ok.uniq y hy, e])
    (thn (hi.run pins s σ H _ I h) fun xv s1 hx => thn hx fun itv s2 h2 => ?_)
  obtain ⟨it, fp, tn, J, H2, e, I2, T, st2, f2, q⟩ := h2
  subst e
  refine newSet_ok (newEnv_comp ?_)
  generalize hD : s2.heap.objs.size = D
  have hDn : H2 D = none := I2.hok.fresh (Nat.le_of_eq hD)
  obtain ⟨md, W, ⟨m0, w0⟩, turn⟩ := q D hDn
  generalize hs3 : ({ s2 with heap := s2.heap.push { cls := .type "set", dict := none, data := .set #[] 0 (.fresh 0 0 (!X.w.params.followText "set-order")) } } : Shared) = s3
  have I3 : Inv X pins σ (upd H2 D (SetMO md X.w D [])) s3 := by
    rw [← hs3]
    refine I2.laid (t' := s2.toks) (fun b o e => Heap.get?_push_of_some _ e) (Nat.le_of_eq hD) ?_
    rw [← hD]
    exact setMO_new ⟨[], _, sm_fresh md (Heap.get?_push_size _ rfl), fun o e => e, .nil, rfl⟩
  have h3 : s3.heap = s2.heap.push { cls := .type "set", dict := none, data := .set #[] 0 (.fresh 0 0 (!X.w.params.followText "set-order")) } := by rw [← hs3]
  have sz : ∀ b ∈ fp, b < s2.heap.objs.size := fun b hb => by
    obtain ⟨o, e, _⟩ := T.obj _ _ st2 b hb
    exact Heap.lt_size e
  have f3 : ∀ b ∈ fp, FpOk X pins (upd H2 D (SetMO md X.w D [])) b ∧ b < s3.heap.objs.size := fun b hb => by
    have hlt := sz b hb
    refine ⟨⟨?_, (f2 b hb).2⟩, by rw [h3, Heap.size_push]; exact Nat.lt_succ_of_lt hlt⟩
    rw [upd_ne (by rw [← hD]; exact Nat.ne_of_lt hlt)]
    exact (f2 b hb).1
  have st3 : tn 0 s3.heap := T.keep _ _ _ st2 fun b _ o e => by rw [h3]; exact Heap.get?_push_of_some _ e
  have I4 := block_start I3 ok hN f3
  have pg := hg s3 (upd H2 D (SetMO md X.w D [])) s3.heap.objs.size (cellsFrom (s3.heap.objs.size + 1) scope.names (cloFrom X.env.cells scope.names [])) fp
  have pt := ht s3 (upd H2 D (SetMO md X.w D [])) s3.heap.objs.size (cellsFrom (s3.heap.objs.size + 1) scope.names (cloFrom X.env.cells scope.names [])) fp
  have pe := he s3 (upd H2 D (SetMO md X.w D [])) s3.heap.objs.size (cellsFrom (s3.heap.objs.size + 1) scope.names (cloFrom X.env.cells scope.names [])) fp
  show codeAny _ _ (.compStart (.SetComp elt [⟨tg, iter, ifs, 0⟩] scope pos) 0 (.ref it) (.ref D) (compEnvC scope (cellsFrom (s3.heap.objs.size + 1) scope.names (cloFrom X.env.cells scope.names [])) s3.heap.objs.size X.env)) (compPost (model X.prog X.w) X.A X.xe use Qf (.ref D) s3.heap.objs.size) { s3 with heap := pushCells (s3.heap.push { cls := .type "dict", data := .dict #[] }) scope.names }
  have nfp : ∀ b ∈ fp, (upd H2 D (SetMO md X.w D [])) b = none := fun b hb => (f3 b hb).1.1
  generalize hce : compEnvC scope (cellsFrom (s3.heap.objs.size + 1) scope.names (cloFrom X.env.cells scope.names [])) s3.heap.objs.size X.env = ce at I4 pg pt pe ⊢
  have cL : ce.locals = s3.heap.objs.size := by subst hce; rfl
  generalize hH3 : upd H2 D (SetMO md X.w D []) = H3 at I3 I4 pg pt pe w0 nfp f3
  generalize hs4 : ({ s3 with heap := pushCells (s3.heap.push { cls := .type "dict", data := .dict #[] }) scope.names } : Shared) = s4 at I4 ⊢
  have st4 : tn 0 s4.heap := T.keep _ _ _ st3 fun b _ o e => by rw [← hs4]; exact pushCells_keeps _ _ _ _ (Heap.get?_push_of_some _ e)
  have stat : ∀ {σ' : L2.St} {H' : Hp} {s' : Shared}, Inv (X.blk s3 H3 scope ce fp) [] σ' H' s' → (∀ b ∈ fp, H' b = none) → ∀ b ∈ fp, FpOk (X.blk s3 H3 scope ce fp) [] H' b := fun {σ' H' s'} I' hn b hb =>
    ⟨hn b hb, (I'.ok.exf b hb).1, I'.ok.exfs b hb, .inl hb, fun x c e => (I'.ok.exf b hb).2 x c e, fun p hp => absurd (show p ∈ ([] : List (Addr × Obj)) ++ [] from hp) (by simp)⟩
  have loop : codeAny (model X.prog X.w) X.A (.compLoop (.SetComp elt [⟨tg, iter, ifs, 0⟩] scope pos) 0 (.ref it) (.ref D) ce) (compPost (model X.prog X.w) X.A X.xe use Qf (.ref D) s3.heap.objs.size) s4 := by
    refine compLoopS_any (fun n s' => ∃ i H', Inv (X.blk s3 H3 scope ce fp) [] (wipe σ (own.map (·.2))) H' s' ∧ tn i s'.heap ∧ (∀ b ∈ fp, H' b = none) ∧ W i n H') ?_ m0 ⟨0, H3, I4, st4, nfp, w0⟩
    rintro n s5 ⟨i, H5, I5, st5, n5, w5⟩
    rcases turn i n H5 w5 with ⟨stop, qq⟩ | ⟨go, Nx, hNx, step⟩
    · have td := T.done (X.blk s3 H3 scope ce fp) rfl rfl rfl hc i [] s5 _ H5 (fun _ _ => False) I5 (stat I5 n5) st5 stop
      refine thnF td fun r s6 ⟨hr, I6⟩ => ?_
      subst hr
      have I7 : Inv X pins σ H5 s6 := I3.call' (ch := fp) I6.os I6.base I6.hok I6.bare fun b hb => ⟨(f3 b hb).1.2.2.2.1, (f3 b hb).1.2.1, (f3 b hb).1.2.2.2.2.1, (f3 b hb).1.2.2.2.2.2⟩
      have nC : H5 s3.heap.objs.size = none := by
        have z : H5 ce.locals = none := I6.free
        rw [cL] at z
        exact z
      obtain ⟨m, hn, _⟩ := I6.loc
      have hn : s6.heap.Ns ce.locals m := hn
      rw [cL] at hn
      exact hRR D s3.heap.objs.size s6 m H5 I7 qq hn (I3.fpOk (Nat.le_refl _) nC)
    · have ti := T.item (X.blk s3 H3 scope ce fp) rfl rfl rfl hc i [] s5 _ H5 (fun _ _ => False) I5 (stat I5 n5) st5 go
      refine thnF ti fun r s6 ⟨u, hr, h6⟩ => ?_
      subst hr
      refine thnF h6 fun _ s7 ⟨x, H7, I7, r7, y7, st7, n7⟩ => ?_
      have I7' := I7.pinned (stat I7 n7) (T.obj _ _ st7)
      refine thnF (pg.run _ s7 _ H7 x u _ I7' r7 (step x H7 y7)) fun _ s8 ⟨σ8, H8, I8, hw8, q8⟩ => ?_
      refine thnF (pt.run _ s8 σ8 H8 _ I8 q8) fun b s9 ⟨H9, I9, q9⟩ => ?_
      have fin : ∀ {s' : Shared} {H' : Hp}, Inv (X.blk s3 H3 scope ce fp) ([] ++ pinsAt fp s7.heap) σ8 H' s' → Nx H' → ∃ m, m < n ∧ ∃ i H', Inv (X.blk s3 H3 scope ce fp) [] (wipe σ (own.map (·.2))) H' s' ∧ tn i s'.heap ∧ (∀ b ∈ fp, H' b = none) ∧ W i m H' := fun {s' H'} I' nx => by
        obtain ⟨m', hm, w'⟩ := hNx H' nx
        have pin' : ∀ b ∈ fp, ∀ o, s7.heap.get? b = some o → s'.heap.get? b = some o ∧ H' b = none := fun b hb o e =>
          let z := I'.pin (b, o) (List.mem_append_right _ (List.mem_append_right _ (mem_pinsAt hb e)))
          ⟨z.1, z.2.1⟩
        have hl : (wipe σ (own.map (·.2))).length = σ8.length := by rw [← hw8, wipe_length]
        refine ⟨m', hm, i + 1, H', (I'.unpinned (pins := [])).weak hl (fun j v e => ?_), T.keep _ _ _ st7 fun b hb o e => (pin' b hb o e).1, fun b hb => ?_, w'⟩
        · rw [← hw8] at e
          exact (wipe_some e).1
        · obtain ⟨o, e, _⟩ := T.obj _ _ st7 b hb
          exact (pin' b hb o e).2
      cases b with
      | false =>
        simp only [Bool.false_eq_true, if_false] at q9 ⊢
        exact fin I9 q9
      | true =>
        simp only [if_true] at q9 ⊢
        refine thnF (pe.run _ s9 σ8 H9 _ I9 q9) fun z s10 ⟨yv, H10, I10, r10, ky, L0, kv, hD10, hL, few, nx⟩ => ?_
        exact addM_ok (X := X.blk s3 H3 scope ce fp) I10 hD10 hL kv r10 hu few fun s11 L' c1 c2 I11 => fin I11 (nx L' c1 c2)
  exact codeAny_compStart_set loop (T.self X.A 0 _ _ _ st4 loop)
theorem pe_scM {elt tg iter : Expr} {ifs : List Expr} {scope : Scope} {own : List (PySem.Str × Nat)} {pos : Pos} {wi : TI} {g : TG} {tt : TT} {te : TE} (hc : X.calm = true) (hN : X.N.Nodup) (hi : PI X tg iter wi) (ok : BlkOk X.N X.env.scope scope own)
    (hg : ∀ (s : Shared) (H : Hp) (C : Addr) (cl : List (PySem.Str × Addr)) (fp : List Addr), PG (X.blk s H scope (compEnvC scope cl C X.env) fp) tg g) (ht : ∀ (s : Shared) (H : Hp) (C : Addr) (cl : List (PySem.Str × Addr)) (fp : List Addr), PTs (X.blk s H scope (compEnvC scope cl C X.env) fp) ifs tt)
    (he : ∀ (s : Shared) (H : Hp) (C : Addr) (cl : List (PySem.Str × Addr)) (fp : List Addr), PE (X.blk s H scope (compEnvC scope cl C X.env) fp) elt te) (hu : X.A.units + 64 < cLine) (hs : ∀ x, foldedSetIterable iter X.env x = pure x := by intro _; rfl) :
    PE X (.SetComp elt [⟨tg, iter, ifs, 0⟩] scope pos) (tScM X.K X.w wi g tt te (own.map (·.2))) := by
  refine ⟨fun pins s σ H Q I h => ?_⟩
  rw [eval_SetComp]
  refine scM_core hc hN I hi ok hg ht he hs hu h fun D C s' m H' I' q hn f => ⟨m, hn, fun h'' sb => ?_⟩
  obtain ⟨f0, f1, f2, f3, f4, f5⟩ := f
  exact ⟨.ref D, H', I'.turned (t' := s'.toks) (fun b o hb e => (sb.2 b hb).trans e) f0 f1 f3 f4 f5, rfl, q⟩
end
end PLS

/-! Set comprehensions in the pure layer: len({..}), sorted({..}). -/
namespace PL
open PySem PySem.Spec PyProof.Rows L2 PLS
open PySem.W (dataLe dataLt alike AllAlike EachIs)
/-- a walk that gathers keys: C holds of each -/
def scW (gd : Sto → Prop) (t : Tg) (tt : PFB) (te : PF) (ρ : Env') (C : Pv → Prop) (Q : List Pv → Sto → Prop) : List Pv → List Pv → Sto → Prop
  | [], acc, S => gd S ∧ Q acc S
  | x :: xs, acc, S => gd S ∧ match bindT S t x ρ with
    | some ρ2 => tt ρ2 S fun c S2 => cnd c (te ρ2 S2 fun y S3 => C y ∧ scW gd t tt te ρ C Q xs (acc ++ [y]) S3) (scW gd t tt te ρ C Q xs acc S2)
    | none => False
theorem scW_mono {gd : Sto → Prop} {t : Tg} {tt : PFB} {te : PF} {ρ : Env'} {C : Pv → Prop} (h1 : ∀ ρ S Q Q', (∀ p S', Q p S' → Q' p S') → tt ρ S Q → tt ρ S Q') (h2 : ∀ ρ S Q Q', (∀ p S', Q p S' → Q' p S') → te ρ S Q → te ρ S Q') {Q Q' : List Pv → Sto → Prop} (i : ∀ p S', Q p S' → Q' p S') :
    ∀ (its acc : List Pv) (S : Sto), scW gd t tt te ρ C Q its acc S → scW gd t tt te ρ C Q' its acc S
  | [], acc, S, q => ⟨q.1, i _ _ q.2⟩
  | x :: xs, acc, S, q => by
    refine ⟨q.1, ?_⟩
    have q2 := q.2
    split at q2
    · refine h1 _ _ _ _ (fun c S2 q => ?_) q2
      cases c with
      | true => exact h2 _ _ _ _ (fun y S3 q => ⟨q.1, scW_mono h1 h2 i xs _ _ q.2⟩) q
      | false => exact scW_mono h1 h2 i xs _ _ q
    · exact q2.elim
def fSc (fi : PFI) (t : Tg) (tt : PFB) (te : PF) (vs : List Nat) (ρ : Env') (S : Sto) (F : List Pv → Sto → Prop) : Prop := fi ρ S fun its gd S1 => ∃ (m : Bool) (D : List Pv), D.length + 1 < setLim m ∧ scW gd t tt te (wipeP ρ vs) (fun y => kOk m y ∧ y ∈ D) F its [] S1
/-- len({..}) -/
def fScLen (fi : PFI) (t : Tg) (tt : PFB) (te : PF) (vs : List Nat) : PF := fun ρ S Q => fSc fi t tt te vs ρ S fun acc S' => ∀ ys, setOf acc ys → Q (.int ys.length) S'
/-- sorted({..}) -/
def fScSorted (fi : PFI) (t : Tg) (tt : PFB) (te : PF) (vs : List Nat) : PF := fun ρ S Q => fSc fi t tt te vs ρ S fun acc S' => AllAlike (acc.map toD) ∧ PySem.W.Sortable (acc.map toD) ∧ ∀ ys, setOf acc ys → Q (.lst (sortP ys)) S'
section
variable {K : PySem.W.Frag} {H : Hp} {S : Sto} {D : Addr} {P : Heap → Prop} {o : HO}
theorem Rd.xupd {a : Addr} {u : HO} (hD : H D = some (.ext P)) (hu : u ≠ .ext P) (h : Rd H a u) : Rd (upd H D o) a u := by
  rcases h with h | ⟨x, h⟩
  · exact .inl (by rw [upd_ne (by rintro rfl; rw [hD] at h; exact hu (Option.some.inj h).symm)]; exact h)
  · exact .inr ⟨x, by rw [upd_ne (by rintro rfl; rw [hD] at h; cases h)]; exact h⟩
theorem SqT.xupd {a : Addr} {xs : List V} (hD : H D = some (.ext P)) (h : SqT K H a xs) : SqT K (upd H D o) a xs := h.imp (fun h => Rd.xupd hD (by intro z; cases z) h) id
mutual
theorem RepV.xupd (hD : H D = some (.ext P)) : ∀ (p : Pv) (v : V), RepV K H S p v → RepV K (upd H D o) S p v
  | .non, _, h => h
  | .bl _, _, h => h
  | .int _, _, h => h
  | .str _, _, h => h
  | .tup ps, _, ⟨a, vs, e1, h, r⟩ => ⟨a, vs, e1, SqT.xupd hD h, RepVs.xupd hD ps vs r⟩
  | .lst ps, _, ⟨a, vs, e1, h, hs, r⟩ => ⟨a, vs, e1, by rw [upd_ne (by rintro rfl; rw [hD] at h; cases h)]; exact h, hs, RepVs.xupd hD ps vs r⟩
  | .dct ks ps, _, ⟨a, kvs, e1, h, hs, r1, r2⟩ => ⟨a, kvs, e1, Rd.xupd hD (by intro z; cases z) h, hs, RepVs.xupd hD ks _ r1, RepVs.xupd hD ps _ r2⟩
  | .ref _, _, h => h
  | .ty _, _, h => h
  | .scr ps, _, ⟨a, vs, e1, h, r⟩ => ⟨a, vs, e1, h.elim (fun ⟨x, z⟩ => .inl ⟨x, by rw [upd_ne (by rintro rfl; rw [hD] at z; cases z)]; exact z⟩) .inr, RepVs.xupd hD ps vs r⟩
theorem RepVs.xupd (hD : H D = some (.ext P)) : ∀ (ps : List Pv) (vs : List V), RepVs K H S ps vs → RepVs K (upd H D o) S ps vs
  | [], _, h => h
  | p :: ps, _, ⟨v, r, e1, h1, h2⟩ => ⟨v, r, e1, RepV.xupd hD p v h1, RepVs.xupd hD ps r h2⟩
end
theorem RepS.xupd (hD : H D = some (.ext P)) (hc : ∀ q, LamX.CodeO D q ≠ .ext P) (r : RepS K H S) : RepS K (upd H D o) S := fun a m e => by
  have q := r a m e
  cases m with
  | lst xs => obtain ⟨vs, e1, r1⟩ := q; exact ⟨vs, by rw [upd_ne (by rintro rfl; rw [hD] at e1; cases e1)]; exact e1, RepVs.xupd hD _ _ r1⟩
  | dct ks xs => obtain ⟨vs, e1, r1, r2⟩ := q; exact ⟨vs, by rw [upd_ne (by rintro rfl; rw [hD] at e1; cases e1)]; exact e1, RepVs.xupd hD _ _ r1, RepVs.xupd hD _ _ r2⟩
  | tab n =>
    obtain ⟨ps, h1, h2, h3⟩ := q
    refine ⟨ps, by rw [upd_ne (by rintro rfl; rw [hD] at h1; cases h1)]; exact h1, h2, fun pos cv h => ?_⟩
    obtain ⟨c, e1, e2⟩ := h3 pos cv h
    refine ⟨c, e1, ?_⟩
    rw [upd_ne (by rintro rfl; rw [hD] at e2; exact hc n (Option.some.inj e2).symm)]
    exact e2
  | exc C => obtain ⟨oe, e1, r1⟩ := q; exact ⟨oe, by rw [upd_ne (by rintro rfl; rw [hD] at e1; cases e1)]; exact e1, r1⟩
  | lck o kvs =>
    have q : H _ = some (.frz o (.dK kvs)) := q
    exact (upd_ne (by rintro rfl; rw [hD] at q; cases q)).trans q
/-- a set is no code object -/
theorem set_code {m : Bool} {w : World} {L : Vk} (q : Str) : LamX.CodeO D q ≠ SetMO m w D L := fun e => by
  have e2 := HO.ext.inj e
  let ob : Obj := { cls := .type "code", data := .fields #[.none, .str q 0] }
  have g : Heap.get? ⟨Array.replicate (D + 1) ob, {}⟩ D = some ob := by
    unfold Heap.get?
    simp [ob]
  have h := congrFun e2 (⟨Array.replicate (D + 1) ob, {}⟩ : Heap)
  have hs : SM0 m w (⟨Array.replicate (D + 1) ob, {}⟩ : Heap) D L := by
    rw [← h]
    exact ⟨ob, _, 0, g, rfl, rfl⟩
  obtain ⟨L', h0, S, k, _⟩ := hs
  obtain ⟨o, es, ep, t, ho, hex, hd, _⟩ := S.ob
  have := k o ho
  rw [g] at this
  cases this
  cases hd
theorem Ext.xupd {S1 : Sto} {H1 : Hp} (hn : H1 D = none) (e : Ext S1 H1 S H) : Ext S1 H1 S (upd H D o) := ⟨fun a u h hs => by rw [upd_ne (by rintro rfl; rw [hn] at h; cases h)]; exact e.keep a u h hs, e.new⟩
end
theorem zip_self {L : Vk} : L = (L.map (·.1)).zip (L.map (·.2)) := by
  induction L with
  | nil => rfl
  | cons z L ih => rw [List.map_cons, List.map_cons, List.zip_cons_cons, ← ih]
/-- the set that has been gathered -/
structure Gat (K : PySem.W.Frag) (w : World) (m : Bool) (D : Addr) (acc : List Pv) (S : Sto) (H : Hp) (L : Vk) (ys : List Pv) : Prop where
  at' : H D = some (SetMO m w D L)
  keys : L.map (·.2) = ys.map toK
  nd : (L.map (·.2)).Nodup
  rep : RepVs K H S ys (L.map (·.1))
  so : setOf acc ys
  ok : ∀ y ∈ acc, kOk m y
theorem Gat.kvs {K : PySem.W.Frag} {w : World} {m : Bool} {D : Addr} {acc : List Pv} {S : Sto} {H : Hp} {L : Vk} {ys : List Pv} (g : Gat K w m D acc S H L ys) : KVs m K H L := by
  have := kvs_of g.rep fun x hx => g.ok x ((g.so.2 x).mp hx)
  rw [← g.keys, ← zip_self] at this
  exact this
section
variable {X : Cx} {S0 : Sto} {H0 : Hp} {pos : Pos}
set_option maxHeartbeats 1000000 in
theorem sc_sim {fi : PFI} {t : Tg} {tt : PFB} {te : PF} {vs : List Nat} {tg iter : Expr} (hi : PIt X S0 H0 tg iter fi) (hv : ∀ i ∈ slotsT t, i ∈ vs) (m1 : ∀ ρ S Q Q', (∀ p S', Q p S' → Q' p S') → tt ρ S Q → tt ρ S Q') (m2 : ∀ ρ S Q Q', (∀ p S', Q p S' → Q' p S') → te ρ S Q → te ρ S Q')
    {σ : L2.St} {H : Hp} {Q : VK} {ρ : Env'} {S : Sto} {F : List Pv → Sto → Prop} (re : RepE X.K H S σ ρ) (rs : RepS X.K H S) (ex : Ext S0 H0 S H) (q : fSc fi t tt te vs ρ S F)
    (fin : ∀ m D acc L ys S' H', F acc S' → Gat X.K X.w m D acc S' H' L ys → S' D = none → RepS X.K H' S' → Ext S H S' H' → Q (.ref D) H') :
    tScM X.K X.w (liftI X.K S0 H0 fi) (tgR X.K t) (liftB X.K S0 H0 tt) (lift X.K S0 H0 te) vs σ H Q := by
  refine ⟨ρ, S, re, rs, ex, hi.mono _ _ _ _ (fun its gd S1 q J H1 w rs1 ex1 => ?_) q⟩
  intro D hD
  obtain ⟨md, D0, hD0, q⟩ := q
  refine ⟨md, fun i m H2 => i + m = its.length ∧ ∃ acc L ys S2, Gat X.K X.w md D acc S2 H2 L ys ∧ (∀ y ∈ acc, y ∈ D0) ∧ S2 D = none ∧ RepS X.K H2 S2 ∧ Ext S1 H1 S2 H2 ∧ scW gd t tt te (wipeP ρ vs) (fun y => kOk md y ∧ y ∈ D0) F (its.drop i) acc S2,
    ⟨its.length, by omega, [], [], [], S1, ⟨upd_same, rfl, List.nodup_nil, rfl, ⟨List.nodup_nil, fun y => Iff.rfl⟩, fun y hy => (by cases hy)⟩, fun y hy => (by cases hy), rs1.fr hD, rs1.newT hD, Ext.newT (K := X.K) hD, by rw [List.drop_zero]; exact q⟩, fun i m H2 hW => ?_⟩
  obtain ⟨em, acc, L, ys, S2, G, hin, n2, rs2, ex2, q2⟩ := hW
  cases hd : its.drop i with
  | nil =>
    rw [hd] at q2
    have hil : its.length ≤ i := by
      have := congrArg List.length hd
      simp at this
      omega
    have e0 : i = its.length := by omega
    subst e0
    exact .inl ⟨w.stop _ H2 ex2 rs2 q2.1, fin md D acc L ys S2 H2 q2.2 G n2 rs2 (ex1.trans ex2)⟩
  | cons x xs =>
    rw [hd] at q2
    have hil : i < its.length := by
      have := congrArg List.length hd
      simp at this
      omega
    have hx : its[i]? = some x := by
      have := congrArg (fun l => l[0]?) hd
      simpa using this
    have hxs : its.drop (i + 1) = xs := by
      have := congrArg (List.drop 1) hd
      simpa [Nat.add_comm] using this
    obtain ⟨hgo, hy⟩ := w.go _ H2 i x ex2 rs2 q2.1 hx
    refine .inr ⟨hgo, fun H3 => ∃ acc L ys S3, Gat X.K X.w md D acc S3 H3 L ys ∧ (∀ y ∈ acc, y ∈ D0) ∧ S3 D = none ∧ RepS X.K H3 S3 ∧ Ext S1 H1 S3 H3 ∧ scW gd t tt te (wipeP ρ vs) (fun y => kOk md y ∧ y ∈ D0) F xs acc S3, fun H3 ⟨acc', L', ys', S3, a1, a2, a3, a4, a5, a6⟩ => ⟨m - 1, by omega, by omega, acc', L', ys', S3, a1, a2, a3, a4, a5, by rw [hxs]; exact a6⟩, fun v H3 yl => ?_⟩
    obtain ⟨rv, rs3, ex3⟩ := hy v H3 yl
    have q3 := q2.2
    split at q3
    · rename_i ρ' eb
      have e13 := ex2.trans ex3
      have re3 : RepE X.K H3 S2 (L2.wipe σ vs) (wipeP ρ vs) := (re.ext rs (ex1.trans e13)).wipe vs
      refine tg_run rs3 t x v (L2.wipe σ vs) (wipeP ρ vs) ρ' _ rv re3 eb fun σ4 re4 w4 => ⟨by rw [w4 vs hv]; exact wipe_wipe σ vs vs fun i h => h, ?_⟩
      have e03 := (ex.trans ex1).trans e13
      refine ⟨ρ', _, re4, rs3, e03, m1 _ _ _ _ (fun c S5 q5 H5 rs5 ex5 => ?_) q3⟩
      have e15 := e13.trans ex5
      have e25 := ex3.trans ex5
      cases c with
      | true =>
        refine ⟨ρ', S5, re4.ext rs3 ex5, rs5, e03.trans ex5, m2 _ _ _ _ (fun y S6 q6 yv H6 ry rs6 ex6 => ?_) q5⟩
        obtain ⟨⟨h1, h2⟩, h3⟩ := q6
        have e26 := e25.trans ex6
        have hD6 : H6 D = some (SetMO md X.w D L) := e26.keep D _ G.at' n2
        have n6 : S6 D = none := e26.non G.at' n2
        have r6 : RepVs X.K H6 S6 ys (L.map (·.1)) := RepVs.ext rs2 e26 _ _ G.rep
        have G6 : Gat X.K X.w md D acc S6 H6 L ys := ⟨hD6, G.keys, G.nd, r6, G.so, G.ok⟩
        have ry6 : RepVs X.K H6 S6 (y :: ys) (yv :: L.map (·.1)) := ⟨yv, L.map (·.1), rfl, ry, r6⟩
        have hkk : ∀ x ∈ y :: ys, isK x = true := fun x hx => by
          rcases List.mem_cons.mp hx with rfl | hx
          · exact h1.isK
          · exact (G.ok x ((G.so.2 x).mp hx)).isK
        have ez : (yv :: L.map (·.1)).zip ((y :: ys).map toK) = (yv, toK y) :: L := by
          rw [List.map_cons, List.zip_cons_cons, ← G.keys, ← zip_self]
        have few : L.length + 1 < setLim md := by
          have := nodup_le (D := D0.map toK) G.nd fun k hk => by
            rw [G.keys] at hk
            obtain ⟨z, hz, rfl⟩ := List.mem_map.mp hk
            exact List.mem_map.mpr ⟨z, hin z ((G.so.2 z).mp hz), rfl⟩
          rw [List.length_map, List.length_map] at this
          omega
        refine ⟨toK y, L, h1.kv ry, hD6, G6.kvs, few, fun L' c1 c2 => ?_⟩
        have three : (∀ z ∈ L', z ∈ (yv, toK y) :: L) ∧ (L'.map (·.2)).Nodup ∧ ∀ z ∈ (yv, toK y) :: L, z.2 ∈ L'.map (·.2) := by
          rcases Classical.em (toK y ∈ L.map (·.2)) with c | c
          · rw [c1 c]
            refine ⟨fun z hz => List.mem_cons_of_mem _ hz, G.nd, fun z hz => ?_⟩
            rcases List.mem_cons.mp hz with rfl | hz
            · exact c
            · exact List.mem_map.mpr ⟨z, hz, rfl⟩
          · have pm := c2 c
            refine ⟨fun z hz => pm.mem_iff.mp hz, (pm.map (·.2)).nodup_iff.mpr (List.nodup_cons.mpr ⟨c, G.nd⟩), fun z hz => List.mem_map.mpr ⟨z, pm.mem_iff.mpr hz, rfl⟩⟩
        obtain ⟨t1, t2, t3⟩ := three
        obtain ⟨ys', sy, ek, ry'⟩ := set_row ry6 hkk (L := L') (by rw [ez]; exact t1) t2 (by rw [ez]; exact t3)
        refine ⟨acc ++ [y], L', ys', S6, ⟨upd_same, ek, t2, RepVs.xupd hD6 _ _ ry', ⟨sy.1, fun z => ?_⟩, fun z hz => ?_⟩, fun z hz => ?_, n6, rs6.xupd hD6 (fun q => set_code q), Ext.xupd hD (e15.trans ex6), h3⟩
        · rw [sy.2 z, List.mem_append, List.mem_cons, List.mem_singleton, G.so.2 z]
          exact Or.comm
        · rcases List.mem_append.mp hz with hz | hz
          · exact G.ok z hz
          · rw [List.mem_singleton.mp hz]; exact h1
        · rcases List.mem_append.mp hz with hz | hz
          · exact hin z hz
          · rw [List.mem_singleton.mp hz]; exact h2
      | false =>
        refine ⟨acc, L, ys, S5, ⟨e25.keep D _ G.at' n2, G.keys, G.nd, RepVs.ext rs2 e25 _ _ G.rep, G.so, G.ok⟩, hin, e25.non G.at' n2, rs5, e15, q5⟩
    · exact q3.elim
variable {elt tg iter : Expr} {ifs : List Expr} {scope : Scope} {fi : PFI} {t : Tg} {tt : PFB} {te : PF} {p : Pos} {cpos : Pos}
theorem fSc_mono {vs : List Nat} (hi : PIt X S0 H0 tg iter fi) (m1 : ∀ ρ S Q Q', (∀ p S', Q p S' → Q' p S') → tt ρ S Q → tt ρ S Q') (m2 : ∀ ρ S Q Q', (∀ p S', Q p S' → Q' p S') → te ρ S Q → te ρ S Q') {F F' : List Pv → Sto → Prop} (i : ∀ acc S', F acc S' → F' acc S') {ρ : Env'} {S : Sto} (q : fSc fi t tt te vs ρ S F) : fSc fi t tt te vs ρ S F' :=
  hi.mono _ _ _ _ (fun its gd S1 ⟨m, D, hD, q⟩ => ⟨m, D, hD, scW_mono m1 m2 i its [] S1 q⟩) q
theorem pv_scLen (own : List (Str × Nat)) (hc : X.calm = true) (hN : X.N.Nodup) (hu : X.A.units + 64 < cLine) (hm : X.mg "len" = none) (hi : PIt X S0 H0 tg iter fi) (ok : BlkOk X.N X.env.scope scope own) (hg : Blk X scope fun Y => PG Y tg (tgR X.K t)) (ht : Blk X scope fun Y => PBs Y S0 H0 ifs tt) (he : Blk X scope fun Y => PV Y S0 H0 elt te)
    (hv : ∀ i ∈ slotsT t, i ∈ own.map (·.2) := by decide) (hs : ∀ x, foldedSetIterable iter X.env x = pure x := by intro _; rfl) (hgl : Gl X "len" := by rfl)
    (hse : starEach [.SetComp elt [⟨tg, iter, ifs, 0⟩] scope cpos] X.env = (false, eval (.SetComp elt [⟨tg, iter, ifs, 0⟩] scope cpos) X.env) :: starEach [] X.env := by rfl) (hpl : (backTo pos (starEach [] X.env)).any (·.1) = false := by rfl) :
    PV X S0 H0 (.Call (.Name "len" p) [.SetComp elt [⟨tg, iter, ifs, 0⟩] scope cpos] [] pos) (fScLen fi t tt te (own.map (·.2))) := by
  have m1 := (ht X.s_0 X.H_0 0 [] []).mono
  have m2 := (he X.s_0 X.H_0 0 [] []).mono
  refine ⟨fun ρ S Q Q' i q => fSc_mono hi m1 m2 (fun acc S' h ys hy => i _ _ (h ys hy)) q, PE.imp (pe_callB cr_lenM hgl hm (by decide +kernel) (pa_cons (pe_scM (te := lift X.K S0 H0 te) (tt := liftB X.K S0 H0 tt) hc hN hi.pi ok hg (fun s H C cl fp => (ht s H C cl fp).pts) (fun s H C cl fp => (he s H C cl fp).pe) hu hs) pa_nil hse) (by decide) (by decide) hse hpl) fun σ H Q ⟨ρ, S, re, rs, ex, q⟩ => ?_⟩
  show tScM X.K X.w (liftI X.K S0 H0 fi) (tgR X.K t) (liftB X.K S0 H0 tt) (lift X.K S0 H0 te) (own.map (·.2)) σ H (fun v H1 => rLenM X.K X.w [v] H1 Q)
  refine sc_sim hi hv m1 m2 re rs ex q fun m D acc L ys S' H' f G n rs' ex' => ?_
  refine ⟨m, D, L, rfl, G.at', G.kvs, ?_⟩
  have hl : L.length = ys.length := by rw [← List.length_map (·.2), G.keys, List.length_map]
  rw [hl]
  exact f ys G.so (.int ys.length) _ rfl rs' ex'
theorem pv_scSorted (own : List (Str × Nat)) (hc : X.calm = true) (hN : X.N.Nodup) (hu : X.A.units + 64 < cLine) (hm : X.mg "sorted" = none) (hi : PIt X S0 H0 tg iter fi) (ok : BlkOk X.N X.env.scope scope own) (hg : Blk X scope fun Y => PG Y tg (tgR X.K t)) (ht : Blk X scope fun Y => PBs Y S0 H0 ifs tt) (he : Blk X scope fun Y => PV Y S0 H0 elt te)
    (hv : ∀ i ∈ slotsT t, i ∈ own.map (·.2) := by decide) (hs : ∀ x, foldedSetIterable iter X.env x = pure x := by intro _; rfl) (hgl : Gl X "sorted" := by rfl)
    (hse : starEach [.SetComp elt [⟨tg, iter, ifs, 0⟩] scope cpos] X.env = (false, eval (.SetComp elt [⟨tg, iter, ifs, 0⟩] scope cpos) X.env) :: starEach [] X.env := by rfl) (hpl : (backTo pos (starEach [] X.env)).any (·.1) = false := by rfl) :
    PV X S0 H0 (.Call (.Name "sorted" p) [.SetComp elt [⟨tg, iter, ifs, 0⟩] scope cpos] [] pos) (fScSorted fi t tt te (own.map (·.2))) := by
  have m1 := (ht X.s_0 X.H_0 0 [] []).mono
  have m2 := (he X.s_0 X.H_0 0 [] []).mono
  refine ⟨fun ρ S Q Q' i q => fSc_mono hi m1 m2 (fun acc S' h => ⟨h.1, h.2.1, fun ys hy => i _ _ (h.2.2 ys hy)⟩) q, PE.imp (pe_callB (cr_sortedM hc hu) hgl hm (by decide +kernel) (pa_cons (pe_scM (te := lift X.K S0 H0 te) (tt := liftB X.K S0 H0 tt) hc hN hi.pi ok hg (fun s H C cl fp => (ht s H C cl fp).pts) (fun s H C cl fp => (he s H C cl fp).pe) hu hs) pa_nil hse) (by decide) (by decide) hse hpl) fun σ H Q ⟨ρ, S, re, rs, ex, q⟩ => ?_⟩
  show tScM X.K X.w (liftI X.K S0 H0 fi) (tgR X.K t) (liftB X.K S0 H0 tt) (lift X.K S0 H0 te) (own.map (·.2)) σ H (fun v H1 => rSortedM X.K X.w [v] H1 Q)
  refine sc_sim hi hv m1 m2 re rs ex q fun m D acc L ys S' H' f G n rs' ex' => ?_
  obtain ⟨al, so, f⟩ := f
  have hky : ∀ y ∈ ys, isK y = true := fun y hy => (G.ok y ((G.so.2 y).mp hy)).isK
  have dl : ∀ z ∈ L, ∃ x ∈ acc, z.2.data = toD x := fun z hz => by
    have : z.2 ∈ ys.map toK := by rw [← G.keys]; exact List.mem_map.mpr ⟨z, hz, rfl⟩
    obtain ⟨y, hy, e⟩ := List.mem_map.mp this
    exact ⟨y, (G.so.2 y).mp hy, by rw [← e, toK_data y (hky y hy)]⟩
  refine ⟨m, D, L, rfl, G.at', G.kvs, ?_, ?_, fun L1 p pm np => ?_⟩
  · intro d hd d' hd'
    obtain ⟨z, hz, rfl⟩ := List.mem_map.mp hd
    obtain ⟨z', hz', rfl⟩ := List.mem_map.mp hd'
    obtain ⟨x, hx, e⟩ := dl z hz
    obtain ⟨x', hx', e'⟩ := dl z' hz'
    rw [e, e']
    exact al _ (List.mem_map.mpr ⟨x, hx, rfl⟩) _ (List.mem_map.mpr ⟨x', hx', rfl⟩)
  · have mm : ∀ d ∈ L.map fun z => z.2.data, d ∈ acc.map toD := fun d hd => by
      obtain ⟨z, hz, rfl⟩ := List.mem_map.mp hd
      obtain ⟨x, hx, e⟩ := dl z hz
      rw [e]
      exact List.mem_map.mpr ⟨x, hx, rfl⟩
    rcases so with s1 | s1
    · exact .inl fun d hd => s1 d (mm d hd)
    · exact .inr fun d hd => s1 d (mm d hd)
  · have zs : L = (L.map (·.1)).zip (ys.map toK) := by rw [← G.keys]; exact zip_self
    have ml : ∀ z ∈ L1, z ∈ (L.map (·.1)).zip (ys.map toK) := fun z hz => by rw [← zs]; exact pm.mem_iff.mp hz
    obtain ⟨us, sy, ek, ry⟩ := set_row G.rep hky (L := L1) ml ((pm.map (·.2)).nodup_iff.mpr G.nd) fun z hz => (pm.map (·.2)).mem_iff.mpr (by rw [← zs] at hz; exact List.mem_map.mpr ⟨z, hz, rfl⟩)
    have su : setOf acc us := ⟨sy.1, fun z => (sy.2 z).trans (G.so.2 z)⟩
    have em : (L1.mergeSort (dataLe false fun z => z.2.data)).map (·.1) = (((L1.map (·.1)).zip (toDs us)).mergeSort (dataLe false (·.2))).map (·.1) := by
      have e3 : (L1.map (·.1)).zip (toDs us) = L1.map fun z => (z.1, z.2.data) := by
        have e4 : toDs us = L1.map fun z => z.2.data := by
          rw [toDs_map]
          have e5 : (L1.map fun z => z.2.data) = (L1.map (·.2)).map NestedKey.data := by rw [List.map_map]; rfl
          rw [e5, ek, List.map_map]
          exact List.map_congr_left fun y hy => (toK_data y (hky y ((sy.2 y).mp hy))).symm
        rw [e4, List.zip_map']
      rw [e3, ← List.map_mergeSort (r := dataLe false fun z : V × NestedKey => z.2.data) (f := fun z : V × NestedKey => (z.1, z.2.data)) (fun _ _ _ _ => rfl), List.map_map]
      rfl
    rw [em]
    obtain ⟨a1, a2, a3⟩ := newL_k rs' np (sort_rep ry)
    exact f us su (.ref p) _ a1 a2 (ex'.trans a3)
end
end PL

/-! x in y: y a text, a tuple of flat things, a dict, a list. -/
namespace PL
open PySem PySem.Spec PyProof.Rows L2
def flP : Pv → Bool
  | .non => true | .bl _ => true | .int _ => true | .str _ => true | _ => false
def toV : Pv → V
  | .bl b => .bl b | .int i => .int i | .str z => .str z | _ => .non
def memF (x : Pv) (ys : List Pv) : Bool := ys.any fun z => eqV (toV z) (toV x)
def oIn2 (neg : Bool) : O2 := fun x y S Q => match x, y with
  | .str x, .str y => Q (.bl (if neg then !inTxt x y else inTxt x y)) S
  | x, .tup ys => (flP x = true ∧ ys.all flP = true) ∧ Q (.bl (if neg then !memF x ys else memF x ys)) S
  | x, y => match dcP S y with
    | some (ks, xs) => (kyP x).isSome = true ∧ kysOk ks ∧ Q (.bl (if neg then !(getK ks xs x).isSome else (getK ks xs x).isSome)) S
    | none => match rdL S y with
      | some ys => (okD (top S x) = true ∧ okD (.lst ys) = true) ∧ Q (.bl (if neg then !memD (top S x) ys else memD (top S x) ys)) S
      | none => False
theorem fl_rep {K : PySem.W.Frag} {H : Hp} {S : Sto} {x : Pv} {v : V} (h : flP x = true) (r : RepV K H S x v) : v = toV x ∧ L2.flatV v = true := by
  cases x with
  | non => cases (show v = .non from r); exact ⟨rfl, rfl⟩
  | bl b => cases (show v = .bl b from r); exact ⟨rfl, rfl⟩
  | int b => cases (show v = .int b from r); exact ⟨rfl, rfl⟩
  | str b => cases (show v = .str b from r); exact ⟨rfl, rfl⟩
  | _ => cases h
theorem fls_rep {K : PySem.W.Frag} {H : Hp} {S : Sto} : ∀ {xs : List Pv} {vs : List V}, xs.all flP = true → RepVs K H S xs vs → vs = xs.map toV ∧ vs.all L2.flatV = true
  | [], vs, _, r => by cases (show vs = [] from r); exact ⟨rfl, rfl⟩
  | x :: xs, vs, h, ⟨v, us, e, r, rr⟩ => by
    subst e
    rw [List.all_cons, Bool.and_eq_true] at h
    obtain ⟨e1, f1⟩ := fl_rep h.1 r
    obtain ⟨e2, f2⟩ := fls_rep h.2 rr
    subst e1 e2
    exact ⟨rfl, by rw [List.all_cons, f1, f2]; rfl⟩
theorem memF_inV (x : Pv) (ys : List Pv) : inV (toV x) (ys.map toV) = memF x ys := by
  unfold inV memF
  rw [List.any_map]
  rfl
section
variable {X : Cx}
abbrev rIn2 (K : PySem.W.Frag) (neg : Bool) : R2 := fun x y H Q => ((∃ i j, x = .str i ∧ y = .str j ∧ Q (.bl (if neg then !(!(Builtin.Str.occurrences j i 0 j.length 1).isEmpty) else !(Builtin.Str.occurrences j i 0 j.length 1).isEmpty)) H) ∨ (if neg then rNotInD K x y H Q else rInD K x y H Q)) ∨ rIn K neg x y H Q ∨ ∃ a o, y = .ref a ∧ DGet H a x o ∧ Q (.bl (if neg then !o.isSome else o.isSome)) H
theorem opIn2 (hu : X.A.units + 65 < cLine) : OpR X (compareOp .In) (rIn2 X.K false) := by
  refine OpR.or (OpR.or op_in_str (op_inD hu)) (OpR.or op_in_seq ?_)
  intro pins s σ H x y v u Q I rx ry h
  obtain ⟨a, o, rfl, g, q⟩ := h
  obtain rfl : u = Value.ref a := ry
  exact d_in (by omega) I g rx fun s3 I3 => ⟨.bl o.isSome, H, I3, rfl, q⟩
theorem opNotIn2 (hu : X.A.units + 65 < cLine) : OpR X (compareOp .NotIn) (rIn2 X.K true) := by
  refine OpR.or (OpR.or op_notin_str (op_notInD hu)) (OpR.or op_notIn_seq ?_)
  intro pins s σ H x y v u Q I rx ry h
  obtain ⟨a, o, rfl, g, q⟩ := h
  obtain rfl : u = Value.ref a := ry
  exact d_notIn (by omega) I g rx fun s3 I3 => ⟨.bl (!o.isSome), H, I3, rfl, q⟩
theorem sim_in2' (neg : Bool) : Sim2 X.K (rIn2 X.K neg) (oIn2 neg) := by
  refine ⟨fun x y S Q Q' h q => ?_, fun x y S Qp v u H Q rx ry rs h k => ?_⟩
  · unfold oIn2 at q ⊢
    split at q
    · exact h _ _ q
    · exact ⟨q.1, h _ _ q.2⟩
    · split at q
      · exact ⟨q.1, q.2.1, h _ _ q.2.2⟩
      · split at q
        · exact ⟨q.1, h _ _ q.2⟩
        · exact q.elim
  · unfold oIn2 at h
    split at h
    · refine .inl (.inl ⟨_, _, rx, ry, ?_⟩)
      have := k _ S _ H h rfl rs (Ext.refl S H)
      cases neg <;> exact this
    · rename_i ys _
      obtain ⟨⟨h1, h2⟩, h3⟩ := h
      obtain ⟨p, vs, e, hq, r⟩ := ry
      obtain ⟨e1, f1⟩ := fl_rep h1 rx
      obtain ⟨e2, f2⟩ := fls_rep h2 r
      refine .inr (.inl ⟨p, vs, e, .inr hq, f1, f2, ?_⟩)
      rw [e1, e2, memF_inV]
      exact k _ S _ H h3 rfl rs (Ext.refl S H)
    · split at h
      · rename_i ks xs e
        obtain ⟨h1, h2, h3⟩ := h
        obtain ⟨key, hk⟩ := Option.isSome_iff_exists.mp h1
        obtain ⟨a, kvs, ea, hr, r1, r2⟩ := dcP_rep rs e ry
        refine .inr (.inr ⟨a, valV kvs key, ea, .inl ⟨kvs, key, hr, kyP_rep hk rx, rfl⟩, ?_⟩)
        have e9 : (valV kvs key).isSome = (getK ks xs x).isSome := by
          rcases get_rep hk r1 r2 h2 with ⟨g1, g2⟩ | ⟨w, z, g1, g2, _⟩
          · rw [g1, g2]; rfl
          · rw [g1, g2]; rfl
        rw [e9]
        exact k _ S _ H h3 rfl rs (Ext.refl S H)
      · split at h
        · rename_i ys e
          obtain ⟨⟨h1, h2⟩, h3⟩ := h
          unfold okD at h1 h2
          rw [Bool.and_eq_true] at h1 h2
          refine .inl (.inr ?_)
          have := k _ S _ H h3 rfl rs (Ext.refl S H)
          cases neg with
          | false => exact ⟨_, _, dp_top rs rx h1.1, dp_list rs ry e (by simpa [isD] using h2.1), h1.2, by simpa [toD] using h2.2, this⟩
          | true => exact ⟨_, _, dp_top rs rx h1.1, dp_list rs ry e (by simpa [isD] using h2.1), h1.2, by simpa [toD] using h2.2, this⟩
        · exact h.elim
theorem sim_in2 : Sim2 X.K (rIn2 X.K false) (oIn2 false) := sim_in2' false
theorem sim_notIn2 : Sim2 X.K (rIn2 X.K true) (oIn2 true) := sim_in2' true
end
end PL

/-! A dict that a comprehension walks and that is changed later; d.pop(k). -/
namespace PL
open PySem PySem.Spec PyProof.Rows L2
def kPv : Key → Pv
  | .inl i => .int i
  | .inr x => .str x
theorem kPv_rep {K : PySem.W.Frag} {H : Hp} {S : Sto} (k : Key) : RepV K H S (kPv k) (kV k) := by
  cases k with
  | inl i => exact rfl
  | inr x => exact rfl
theorem kyP_kPv {p : Pv} {k : Key} (h : kyP p = some k) : p = kPv k := by
  cases p with
  | int i => simp only [kyP, Option.some.injEq] at h; subst h; rfl
  | str i => simp only [kyP, Option.some.injEq] at h; subst h; rfl
  | _ => simp [kyP] at h
theorem keys_kPv : ∀ {ks : List Pv} {kvs : List (Key × V)}, (ks.map kyP = kvs.map fun kv => some kv.1) → ks = kvs.map fun kv => kPv kv.1
  | [], [], _ => rfl
  | [], _ :: _, h => by cases h
  | _ :: _, [], h => by cases h
  | k :: ks, kv :: kvs, h => by
    rw [List.map_cons, List.map_cons] at h
    injection h with h1 h2
    rw [List.map_cons, keys_kPv h2, kyP_kPv h1]
theorem RepS.chgX {K : PySem.W.Frag} {H : Hp} {S : Sto} {D : Addr} {m m' : Mo} {u : HO} (rs : RepS K H S) (h : S D = some m) (hm : RepM K (upd H D u) (put S D m') D m') : RepS K (upd H D u) (put S D m') := fun a mm ha => by
  have e := Ext.chg (H := H) (m' := m') (o := u) h
  by_cases z : a = D
  · subst z
    rw [put_same] at ha; cases ha
    exact hm
  · rw [put_ne z] at ha
    have q := rs a mm ha
    cases mm with
    | lst xs => obtain ⟨us, e1, r⟩ := q; exact ⟨us, by rw [upd_ne z]; exact e1, RepVs.ext rs e _ _ r⟩
    | dct ks xs => obtain ⟨us, e1, r, r'⟩ := q; exact ⟨us, by rw [upd_ne z]; exact e1, RepVs.ext rs e _ _ r, RepVs.ext rs e _ _ r'⟩
    | tab n => exact tab_ext rs e q (by rw [upd_ne z])
    | exc C => obtain ⟨oe, e1, r⟩ := q; exact ⟨oe, by rw [upd_ne z]; exact e1, r⟩
    | lck o kvs => exact (upd_ne z).trans q
section
variable {X : Cx} {S0 : Sto} {H0 : Hp} {a b e : Expr} {fa fb fe : PF} {pos p apos cpos : Pos}
/-- for k in d, d under a lock -/
def fKeysL (f : PF) : PFI := fun ρ S Q => f ρ S fun p S1 => match p with
  | .ref a => (match S1 a with
    | some (.lck o kvs) => Q (kvs.map fun kv => kPv kv.1) (fun S' => S' a = some (.lck o kvs)) S1
    | _ => False)
  | _ => False
theorem pit_keysL {tg : Expr} (h : PV X S0 H0 a fa) : PIt X S0 H0 tg a (fKeysL fa) := by
  refine ⟨fun ρ S Q Q' i q => h.mono _ _ _ _ (fun p S1 q => ?_) q, PI.imp (pi_keys h.pe) fun σ H R ⟨ρ, S, re, rs, ex, q⟩ => ?_⟩
  · split at q
    · split at q
      · exact i _ _ _ q
      · exact q
    · exact q
  · refine ⟨ρ, S, re, rs, ex, h.mono _ _ _ _ (fun p S1 q v H1 rv rs1 ex1 => ?_) q⟩
    cases p with
    | ref d =>
      have q : (match S1 d with | some (.lck o kvs) => _ | _ => False) := q
      split at q
      · rename_i o kvs e1
        have hd : H1 d = some (.frz o (.dK kvs)) := rs1 d _ e1
        refine ⟨d, o, rv, .inl ⟨kvs, hd, q (Itk d o kvs) _ ?_ rs1 ex1⟩⟩
        refine ⟨fun S' H' i x e rs' g hx => ?_, fun S' H' e rs' g => ⟨rs' d _ g, by rw [List.length_map]; exact Nat.le_refl _⟩⟩
        have hi : i < kvs.length := by
          have := (List.getElem?_eq_some_iff.mp hx).1
          rwa [List.length_map] at this
        refine ⟨⟨rs' d _ g, hi⟩, fun v H'' y => ?_⟩
        obtain ⟨rfl, k, w, hkv, rfl⟩ := y
        rw [List.getElem?_map, hkv] at hx
        cases hx
        exact ⟨kPv_rep k, rs', Ext.refl _ _⟩
      · exact q.elim
    | _ => exact q.elim
/-- an expression under a lock of the dict in slot n -/
def fLockD (n : Nat) (g : PF) : PF := fun ρ S Q => match ρ.getD n none with
  | some (.ref a) => (match S a with
    | some (.dct ks xs) => kysOk ks ∧ ∀ o kvs, (kvs.map fun kv => kPv kv.1) = ks → g ρ (put S a (.lck o kvs)) fun p S2 => S2 a = some (.lck o kvs) ∧ Q p (put S2 a (.dct ks xs))
    | _ => False)
  | _ => False
theorem pv_lockD (n : Nat) (h : PV X S0 H0 e fe) : PV X S0 H0 e (fLockD n fe) := by
  refine ⟨fun ρ S Q Q' i q => ?_, PE.imp (pe_lock h.pe) fun σ H Q ⟨ρ, S, re, rs, ex, q⟩ => ?_⟩
  · unfold fLockD at q ⊢
    split at q
    · split at q
      · exact ⟨q.1, fun o kvs hk => h.mono _ _ _ _ (fun p S2 q => ⟨q.1, i _ _ q.2⟩) (q.2 o kvs hk)⟩
      · exact q
    · exact q
  · unfold fLockD at q
    split at q
    · rename_i a _
      split at q
      · rename_i ks xs e1
        obtain ⟨ok, q⟩ := q
        obtain ⟨kvs, e2, r1, r2⟩ := rs a _ e1
        refine ⟨a, .dK kvs, e2, True.intro, fun od => ?_⟩
        have e := Ext.chg (H := H) (m' := .lck od kvs) (o := .frz od (.dK kvs)) e1
        have rs1 : RepS X.K (upd H a (.frz od (.dK kvs))) (put S a (.lck od kvs)) := rs.chgX e1 upd_same
        refine ⟨ρ, put S a (.lck od kvs), re.ext rs e, rs1, ex.trans e, h.mono _ _ _ _ (fun p S2 q v H2 rv rs2 ex2 => ?_) (q od kvs (keys_kPv (keys_rep r1 ok)).symm)⟩
        obtain ⟨q1, q⟩ := q
        have e3 := Ext.chg (H := H2) (m' := .dct ks xs) (o := .dK kvs) q1
        have e4 := (e.trans ex2).trans e3
        refine ⟨rs2 a _ q1, q v _ (RepV.ext rs2 e3 p v rv) (rs2.chgX q1 ⟨kvs, upd_same, RepVs.ext rs e4 _ _ r1, RepVs.ext rs e4 _ _ r2⟩) e4⟩
      · exact q.elim
    · exact q.elim
/-! ### d.pop(k) -/
def dropD (ks xs : List Pv) (k : Pv) : List Pv × List Pv := ((ks.zip xs).filter fun p => decide (kyP p.1 ≠ kyP k)).unzip
theorem drop_rep {K : PySem.W.Frag} {H : Hp} {S : Sto} {k : Pv} {key : Key} (hk : kyP k = some key) : ∀ {ks xs : List Pv} {kvs : List (Key × V)}, RepVs K H S ks (kvs.map fun kv => kV kv.1) → RepVs K H S xs (kvs.map (·.2)) → kysOk ks →
    RepVs K H S (dropD ks xs k).1 ((dropK kvs key).map fun kv => kV kv.1) ∧ RepVs K H S (dropD ks xs k).2 ((dropK kvs key).map (·.2))
  | [], [], [], _, _, _ => ⟨rfl, rfl⟩
  | [], _ :: _, [], _, ⟨_, _, e, _⟩, _ => by cases e
  | _ :: _, _, [], ⟨_, _, e, _⟩, _, _ => by cases e
  | [], _, _ :: _, e, _, _ => by cases (show _ = [] from e)
  | _ :: _, [], _ :: _, _, e, _ => by cases (show _ = [] from e)
  | k0 :: ks, x0 :: xs, kv :: kvs, ⟨v, r, e, h1, h2⟩, ⟨v', r', e', h1', h2'⟩, hh => by
    rw [List.map_cons] at e e'
    injection e with e1 e2
    injection e' with e1' e2'
    subst e1 e2 e1' e2'
    obtain ⟨c, hc⟩ := Option.isSome_iff_exists.mp (hh k0 List.mem_cons_self)
    have ec : kv.1 = c := kV_inj (kyP_rep hc h1)
    obtain ⟨i1, i2⟩ := drop_rep hk h2 h2' (fun z hz => hh z (List.mem_cons_of_mem _ hz))
    unfold dropD dropK at *
    rw [List.zip_cons_cons]
    by_cases z : kyP k0 = kyP k
    · have zz : kv.1 = key := by
        rw [ec]
        rw [hc, hk] at z
        exact Option.some.inj z
      rw [List.filter_cons_of_neg (by simpa using z), List.filter_cons_of_neg (by simpa using zz)]
      exact ⟨i1, i2⟩
    · have zz : ¬ kv.1 = key := fun w => z (by rw [hc, hk, ← ec, w])
      rw [List.filter_cons_of_pos (by simpa using z), List.filter_cons_of_pos (by simpa using zz)]
      rw [List.unzip_cons, List.map_cons, List.map_cons]
      exact ⟨⟨_, _, rfl, h1, i1⟩, ⟨_, _, rfl, h1', i2⟩⟩
def fPopK (fd fk : PF) : PF := fun ρ S Q => fd ρ S fun x S1 => ckD S1 x = true ∧ fk ρ S1 fun k S2 => match x with
  | .ref a => (match S2 a with
    | some (.dct ks xs) => (kyP k).isSome = true ∧ kysOk ks ∧ ∃ w, getK ks xs k = some w ∧ Q w (put S2 a (.dct (dropD ks xs k).1 (dropD ks xs k).2))
    | _ => False)
  | _ => False
theorem pv_popK (ho : PV X S0 H0 a fa) (hi : PV X S0 H0 b fb)
    (hbase : attributeBase a "pop" X.env (eval a X.env) = eval a X.env := by rfl)
    (hfew : ((backTo cpos (starEach [b] X.env)).all (fun x => !x.1) && (backToKw cpos (keywordEach [] X.env)).all (fun x => x.1.isSome) && decide (([b] : List Expr).length + ([] : List Keyword).length + (if ([] : List Keyword).isEmpty then 0 else 1) < 30)) = true := by rfl)
    (hline : (apos.endLine == cpos.line) = true := by rfl) (hs : backTo cpos (starEach [b] X.env) = [(false, eval b X.env)] := by rfl) :
    PV X S0 H0 (.Call (.Attribute a "pop" apos) [b] [] cpos) (fPopK fa fb) := by
  refine ⟨fun ρ S Q Q' i q => ho.mono _ _ _ _ (fun x S1 q => ⟨q.1, hi.mono _ _ _ _ (fun k S2 q => ?_) q.2⟩) q, PE.imp (pe_dpop1 ho.pe hi.pe ⟨hbase, hfew, hline, hs⟩) fun σ H Q ⟨ρ, S, re, rs, ex, q⟩ => ?_⟩
  · split at q
    · split at q
      · obtain ⟨h1, h2, w, h3, q⟩ := q
        exact ⟨h1, h2, w, h3, i _ _ q⟩
      · exact q
    · exact q
  · refine ⟨ρ, S, re, rs, ex, ho.mono _ _ _ _ (fun x S1 q v H1 rv rs1 ex1 => ?_) q⟩
    obtain ⟨ck, q⟩ := q
    cases x with
    | ref d =>
      have ck : (match S1 d with | some (.dct _ _) => true | _ => false) = true := ck
      split at ck
      · rename_i ks0 xs0 e0
        obtain ⟨kvs0, e1, _, _⟩ := rs1 d _ e0
        refine ⟨d, rv, .inl ⟨kvs0, .inl e1⟩, ρ, S1, re.ext rs ex1, rs1, ex.trans ex1, hi.mono _ _ _ _ (fun k S2 q y H2 ry rs2 ex2 => ?_) q⟩
        have q : (match S2 d with | some (.dct ks xs) => (kyP k).isSome = true ∧ kysOk ks ∧ _ | _ => False) := q
        split at q
        · rename_i ks xs e2
          obtain ⟨h1, h2, w, h3, q⟩ := q
          obtain ⟨key, hk⟩ := Option.isSome_iff_exists.mp h1
          obtain ⟨kvs, e3, r1, r2⟩ := rs2 d _ e2
          rcases get_rep hk r1 r2 h2 with ⟨_, z⟩ | ⟨v', x', hv, hx, rx⟩
          · rw [h3] at z; cases z
          · rw [h3] at hx
            cases hx
            obtain ⟨p1, p2⟩ := drop_rep hk r1 r2 h2
            have e4 := Ext.chg (H := H2) (m' := .dct (dropD ks xs k).1 (dropD ks xs k).2) (o := .dK (dropK kvs key)) e2
            exact ⟨kvs, key, v', e3, kyP_rep hk ry, hv, q v' _ (RepV.ext rs2 e4 w v' rx) (rs2.chgD e2 p1 p2) (ex1.trans (ex2.trans e4))⟩
        · exact q.elim
      · cases ck
    | _ => simp [ckD] at ck
end
/-- {k: v for ..} that is changed later -/
def fDcT (fi : PFI) (t : Tg) (tt : PFB) (tk tv : PF) (vs : List Nat) : PF := fun ρ S Q => fi ρ S fun its gd S1 => ∀ D, S1 D = none → dcW gd t tt tk tv (wipeP ρ vs) D (fun ks xs S' => Q (.ref D) (put S' D (.dct ks xs))) its [] [] S1
section
variable {X : Cx} {S0 : Sto} {H0 : Hp} {pos : Pos} {fi : PFI} {t : Tg} {tt : PFB} {tk tv : PF} {tg iter kx vx : Expr} {ifs : List Expr} {scope : Scope}
theorem pv_dcT (own : List (Str × Nat)) (hc : X.calm = true) (hN : X.N.Nodup) (hi : PIt X S0 H0 tg iter fi) (ok : BlkOk X.N X.env.scope scope own) (hg : Blk X scope fun Y => PG Y tg (tgR X.K t)) (ht : Blk X scope fun Y => PBs Y S0 H0 ifs tt) (hk : Blk X scope fun Y => PV Y S0 H0 kx tk) (he : Blk X scope fun Y => PV Y S0 H0 vx tv)
    (hv : ∀ i ∈ slotsT t, i ∈ own.map (·.2) := by decide) (hs : ∀ x, foldedSetIterable iter X.env x = pure x := by intro _; rfl) : PV X S0 H0 (.DictComp kx vx [⟨tg, iter, ifs, 0⟩] scope pos) (fDcT fi t tt tk tv (own.map (·.2))) := by
  have m1 := (ht X.s_0 X.H_0 0 [] []).mono
  have m2 := (hk X.s_0 X.H_0 0 [] []).mono
  have m3 := (he X.s_0 X.H_0 0 [] []).mono
  refine ⟨fun ρ S Q Q' i q => hi.mono _ _ _ _ (fun its gd S1 q D hD => dcW_mono m1 m2 m3 (fun _ _ _ q => i _ _ q) its [] [] S1 (q D hD)) q, PE.imp (pe_dc (tk := lift X.K S0 H0 tk) (tv := lift X.K S0 H0 tv) (tt := liftB X.K S0 H0 tt) hc hN hi.pi ok hg (fun s H C cl fp => (ht s H C cl fp).pts) (fun s H C cl fp => (hk s H C cl fp).pe) (fun s H C cl fp => (he s H C cl fp).pe) hs) fun σ H Q ⟨ρ, S, re, rs, ex, q⟩ => ?_⟩
  exact dc_sim hi hv m1 m2 m3 re rs ex q fun D ks xs S' H' g hn rs' e' => g (.ref D) H' rfl rs' e'
end
end PL

/-! Ranges with a step, walked and listed. -/
namespace PL
open PySem PySem.Spec PyProof.Rows L2
theorem RepVs.three {K : PySem.W.Frag} {H : Hp} {S : Sto} {p q r : Pv} {vs : List V} (h : RepVs K H S [p, q, r] vs) : ∃ v u w, vs = [v, u, w] ∧ RepV K H S p v ∧ RepV K H S q u ∧ RepV K H S r w := by
  obtain ⟨v, r, e, h1, h2⟩ := h
  obtain ⟨u, w, rfl, h3, h4⟩ := RepVs.two h2
  exact ⟨v, u, w, e, h1, h3, h4⟩
/-- lo, lo + c, .. (n of them) -/
def rgcP (lo c : Int) (n : Nat) : List Pv := (List.range n).map fun (k : Nat) => .int (lo + (k : Int) * c)
theorem wk_rgc {K : PySem.W.Frag} {S1 : Sto} {H1 : Hp} {lo c : Int} {n : Nat} : Wk K S1 H1 (Itc lo c n) (rgcP lo c n) tru := by
  refine ⟨fun S H i x e rs g hx => ?_, fun S H e rs g => ?_⟩
  · unfold rgcP at hx
    rw [List.getElem?_map, Option.map_eq_some_iff] at hx
    obtain ⟨k, hc, rfl⟩ := hx
    have hi' : i < n := by
      have := (List.getElem?_eq_some_iff.mp hc).1
      simpa using this
    have e2 : i = k := by simpa [List.getElem?_range hi'] using hc
    subst e2
    refine ⟨hi', fun w H' y => ?_⟩
    obtain ⟨rfl, rfl⟩ := y
    exact ⟨rfl, rs, Ext.refl S _⟩
  · show n ≤ _
    unfold rgcP
    simp
def nRg (i j c : Int) : Nat := (Builtin.Range.rangeSize i j c).toNat
theorem rgc_pos {i j c : Int} (hc : 0 < c) (hc2 : c < 1000) (hi : bnd i) (hj : bnd j) : RgC i j c (nRg i j c) := by
  have e : Builtin.Range.rangeSize i j c = if i < j then (j - i - 1) / c + 1 else 0 := by
    unfold Builtin.Range.rangeSize
    rw [if_pos hc]
  have h0 : 0 ≤ Builtin.Range.rangeSize i j c ∧ Builtin.Range.rangeSize i j c < 2 ^ 63 := by
    rw [e]
    split
    · have h1 : 0 ≤ (j - i - 1) / c := Int.ediv_nonneg (by omega) (by omega)
      have h2 : (j - i - 1) / c ≤ j - i - 1 := Int.ediv_le_self _ (by omega)
      obtain ⟨a1, a2⟩ := hi
      obtain ⟨b1, b2⟩ := hj
      constructor <;> omega
    · constructor <;> omega
  obtain ⟨a1, a2⟩ := hi
  obtain ⟨b1, b2⟩ := hj
  refine ⟨by omega, by omega, ?_, by unfold nRg; omega⟩
  unfold Builtin.Range.small
  simp only [Builtin.Range.rangeFitsLong, Bool.and_eq_true, Bool.or_eq_true, decide_eq_true_eq, beq_iff_eq]
  rw [if_pos hc]
  simp only [Bool.and_eq_true, decide_eq_true_eq]
  generalize Builtin.Range.rangeSize i j c = z at h0
  omega
def fRng3 (fs : PFs) : PFI := fun ρ S Q => fs ρ S fun ps S1 => match ps with
  | [.int i, .int j, .int c] => ∃ n, RgC i j c n ∧ Q (rgcP i c n) tru S1
  | _ => False
section
variable {X : Cx} {S0 : Sto} {H0 : Hp} {pos : Pos} {a b c : Expr}
theorem pit_range3 {tg : Expr} {fs : PFs} {p : Pos} (hm : X.mg "range" = none) (ha : PVs X S0 H0 [a, b, c] fs) (hg : Gl X "range" := by rfl)
    (hs : starEach [a, b, c] X.env = (false, eval a X.env) :: starEach [b, c] X.env := by rfl) (hpl : (backTo pos (starEach [b, c] X.env)).any (·.1) = false := by rfl) : PIt X S0 H0 tg (.Call (.Name "range" p) [a, b, c] [] pos) (fRng3 fs) := by
  refine ⟨fun ρ S Q Q' i q => ha.mono _ _ _ _ (fun ps S1 q => ?_) q, PI.imp (pi_range3 hg hm ha.pa hs hpl) fun σ H R ⟨ρ, S, re, rs, ex, q⟩ => ?_⟩
  · split at q
    · obtain ⟨n, h1, h2⟩ := q
      exact ⟨n, h1, i _ _ _ h2⟩
    · exact q
  · refine ⟨ρ, S, re, rs, ex, ha.mono _ _ _ _ (fun ps S1 q vs H1 rv rs1 ex1 => ?_) q⟩
    split at q
    · rename_i i j k
      obtain ⟨v, u, w, rfl, r, r', r''⟩ := rv.three
      obtain ⟨n, h1, h2⟩ := q
      exact ⟨i, j, k, n, by rw [show v = _ from r, show u = _ from r', show w = _ from r''], h1, h2 _ H1 wk_rgc rs1 ex1⟩
    · exact q.elim
/-! list(range(a, b, c)) -/
def rgcV (lo c : Int) (n : Nat) : List V := (List.range n).map fun (k : Nat) => V.int (lo + (k : Int) * c)
theorem rep_rgc {K : PySem.W.Frag} {H : Hp} {S : Sto} (lo c : Int) (n : Nat) : RepVs K H S (rgcP lo c n) (rgcV lo c n) := by
  unfold rgcP rgcV
  generalize List.range n = ks
  induction ks with
  | nil => rfl
  | cons k ks ih => exact ⟨_, _, rfl, rfl, ih⟩
theorem vals_rgc {lo c : Int} {n : Nat} {acc : Array Value} (h : ItemsOf (fun i v => ∃ t, v = .int (lo + i * c) t) acc n) : Vals (rgcV lo c n) acc.toList := by
  have e : acc.toList.length = n := by rw [Array.length_toList]; exact h.1
  unfold rgcV
  rw [← e]
  refine vals_of_get acc.toList _ fun j u hj => ?_
  obtain ⟨t, rfl⟩ := h.2 j u (by rw [← hj, Array.getElem?_toList])
  exact ⟨t, rfl⟩
def tLr3 (ta : TA) : TE := fun σ H Q => ta σ H fun vs H1 => ∃ (i j k : Int) (n : Nat), vs = [.int i, .int j, .int k] ∧ (RgC i j k n ∧ n ≤ 2 ^ 24) ∧ ∀ q, H1 q = none → Q (.ref q) (upd H1 q (.lst (rgcV i k n)))
theorem pe_lr3 {ta : TA} {p p2 pos2 : Pos} (hc : X.calm = true) (hg : Gl X "list") (hm : X.mg "list" = none) (hg2 : Gl X "range") (hm2 : X.mg "range" = none) (ha : PA X [a, b, c] ta)
    (hs : starEach [a, b, c] X.env = (false, eval a X.env) :: starEach [b, c] X.env) (hpl : (backTo pos2 (starEach [b, c] X.env)).any (·.1) = false)
    (ne : starEach [.Call (.Name "range" p2) [a, b, c] [] pos2] X.env = (false, eval (.Call (.Name "range" p2) [a, b, c] [] pos2) X.env) :: starEach [] X.env) : PE X (.Call (.Name "list" p) [.Call (.Name "range" p2) [a, b, c] [] pos2] [] pos) (tLr3 ta) := by
  have inner : ∀ (pins : List (Addr × Obj)) (s : Shared) (σ : L2.St) (H : Hp) (Q : VK), Inv X pins σ H s → tLr3 ta σ H Q → wpAny (model X.prog X.w) X.A (eval (.Call (.Name "range" p2) [a, b, c] [] pos2) X.env) (fun x s1 => ∃ (r : Addr) (i j k : Int) (t u v : Tok) (n : Nat) (H1 : Hp), x = .ref r ∧ IsRange s1.heap r i j k t u v ∧ Inv X pins σ H1 s1 ∧ (RgC i j k n ∧ n ≤ 2 ^ 24) ∧ ∀ q, H1 q = none → Q (.ref q) (upd H1 q (.lst (rgcV i k n)))) X.xe s := by
    intro pins s σ H Q I h
    refine Call_ (ld_blt I hg2 hm2 boot_range (PyProof.Rows.callWith_type1 (thn (ha.run pos2 pins s σ H _ I h) fun us s1 ⟨vs, H1, I1, r1, q1⟩ => ?_) hs hpl))
    obtain ⟨i, j, k, n, e, ⟨⟨c0, c1, c2, c3⟩, hn⟩, q⟩ := q1
    subst e
    cases r1 with
    | cons r rr =>
      cases rr with
      | cons r' rr =>
        cases rr with
        | cons r'' rr =>
          cases rr
          obtain ⟨t, rfl⟩ := r
          obtain ⟨t', rfl⟩ := r'
          obtain ⟨t'', rfl⟩ := r''
          refine call_range_3 c0 ?_ (.inl (PyProof.noPylong_small c1))
          exact ⟨_, i, j, k, _, _, _, n, H1, rfl, IsRange.new .., I1.kept (t' := s1.toks) fun b o e => Heap.get?_push_of_some _ e, ⟨⟨c0, c1, c2, c3⟩, hn⟩, q⟩
  refine ⟨fun pins s σ H Q I h => Call_ (ld_blt I hg hm boot_list (PyProof.Rows.callWith_type1 (args_cons (thn (inner pins s σ H Q I h) fun x s1 ⟨r, i, j, k, t, u, v, n, H1, ex, hr, I1, ⟨ok, hn⟩, q⟩ => args_nil ?_) ne) ne))⟩
  subst ex
  refine call_list_range (n := n) (I1.ok.hd hc) hr ok.2.2.1 ok.2.2.2 hn fun hp tk acc cc hk e2 hi => ?_
  refine ⟨.ref s1.heap.objs.size, upd H1 s1.heap.objs.size (.lst (rgcV i k n)), I1.laid hk (Nat.le_refl _) (show ObjOk X.prog X.w _ _ _ (.lst (rgcV i k n)) from ⟨by unfold rgcV; rw [List.length_map, List.length_range, sizeLine_eq]; omega, acc.toList, cc, vals_rgc hi, by rw [Array.toArray_toList]; exact e2⟩), rfl, q _ (I1.hok.fresh (Nat.le_refl _))⟩
def oLr3 : On := fun ps S Q => match ps with
  | [.int i, .int j, .int c] => ∃ n, (RgC i j c n ∧ n ≤ 2 ^ 24) ∧ Q (.lst (rgcP i c n)) S
  | _ => False
theorem pv_lr3 {fs : PFs} {p p2 pos2 : Pos} (hm : X.mg "list" = none) (hm2 : X.mg "range" = none) (hc : X.calm = true) (ha : PVs X S0 H0 [a, b, c] fs) (hg : Gl X "list" := by rfl) (hg2 : Gl X "range" := by rfl)
    (hs : starEach [a, b, c] X.env = (false, eval a X.env) :: starEach [b, c] X.env := by rfl) (hpl : (backTo pos2 (starEach [b, c] X.env)).any (·.1) = false := by rfl)
    (ne : starEach [.Call (.Name "range" p2) [a, b, c] [] pos2] X.env = (false, eval (.Call (.Name "range" p2) [a, b, c] [] pos2) X.env) :: starEach [] X.env := by rfl) : PV X S0 H0 (.Call (.Name "list" p) [.Call (.Name "range" p2) [a, b, c] [] pos2] [] pos) (fN oLr3 fs) := by
  have mono : ∀ ps S Q Q', (∀ p S', Q p S' → Q' p S') → oLr3 ps S Q → oLr3 ps S Q' := fun ps S Q Q' h q => by
    unfold oLr3 at q ⊢
    split at q
    · obtain ⟨n, h1, h2⟩ := q
      exact ⟨n, h1, h _ _ h2⟩
    · exact q
  refine ⟨fN_mono mono ha, PE.imp (pe_lr3 hc hg hm hg2 hm2 ha.pa hs hpl ne) fun σ H Q ⟨ρ, S, re, rs, ex, q⟩ => ?_⟩
  refine ⟨ρ, S, re, rs, ex, ha.mono _ _ _ _ (fun ps S1 q vs H1 rv rs1 ex1 => ?_) q⟩
  unfold oLr3 at q
  split at q
  · rename_i i j k
    obtain ⟨v, u, w, rfl, r, r', r''⟩ := rv.three
    obtain ⟨n, h1, h2⟩ := q
    refine ⟨i, j, k, n, by rw [show v = _ from r, show u = _ from r', show w = _ from r''], h1, fun z nz => ?_⟩
    have kk := newL_k rs1 nz (rep_rgc (K := X.K) (H := H1) (S := S1) i k n)
    exact h2 _ _ kk.1 kk.2.1 (ex1.trans kk.2.2)
  · exact q.elim
end
end PL

/-! Lists that a def makes step by step. -/
namespace PL
open PySem PySem.Spec PyProof.Rows L2
/-- a new list at l, all that stood before stands -/
structure MkI (S0 : Sto) (l : Addr) (zs : List Pv) (S : Sto) : Prop where
  at_ : S l = some (.lst zs)
  old : S0 l = none
  sub : Sub S0 S
theorem MkI.one {S : Sto} {l : Addr} {zs : List Pv} (h : S l = none) : MkI S l zs (put S l (.lst zs)) := ⟨put_same, h, fun b m hb => by
  by_cases e : b = l
  · rw [e, h] at hb; cases hb
  · rw [put_ne e]; exact hb⟩
theorem Sub.none {S0 S : Sto} (h : Sub S0 S) {b : Addr} (hb : S b = none) : S0 b = none := by
  cases e : S0 b with
  | none => rfl
  | some m => rw [h b m e] at hb; cases hb
theorem MkI.app {S0 S : Sto} {l : Addr} {zs ys : List Pv} (h : MkI S0 l zs S) : MkI S0 l ys (put S l (.lst ys)) := ⟨put_same, h.old, fun b m hb => by
  by_cases e : b = l
  · rw [e, h.old] at hb; cases hb
  · rw [put_ne e]; exact h.sub b m hb⟩
theorem MkI.add {S0 S : Sto} {l l' : Addr} {zs ys : List Pv} (h : MkI S0 l zs S) (n : S l' = none) : MkI S0 l' ys (put S l' (.lst ys)) := ⟨put_same, h.sub.none n, fun b m hb => by
  by_cases e : b = l'
  · rw [e, h.sub.none n] at hb; cases hb
  · rw [put_ne e]; exact h.sub b m hb⟩
theorem MkI.out {S0 S : Sto} {l : Addr} {zs : List Pv} {Q : QV} (h : MkI S0 l zs S) (q : Q (.lst zs) S0) : Out Q (.ref l) S := Out.frz h.at_ (fun b m hb => by
  by_cases e : b = l
  · rw [e, h.old] at hb; cases hb
  · show (if b = l then _ else S b) = _
    rw [if_neg e]; exact h.sub b m hb) q
theorem mk_lstT {S : Sto} {ps : List Pv} {Q : QV} (h : ps.length ≤ sizeLine) (q : ∀ l S', MkI S l ps S' → Q (.ref l) S') : oLstT ps S Q := ⟨h, fun l hl => q l _ (MkI.one hl)⟩
theorem mk_append {S0 S : Sto} {l : Addr} {zs : List Pv} {p : Pv} {Q : QV} (h : MkI S0 l zs S) (hl : zs.length < sizeLine) (q : ∀ S', MkI S0 l (zs ++ [p]) S' → Q .non S') : oAppend (.ref l) [p] S Q := app_i h.at_ hl (q _ h.app)
theorem mk_addT {S0 S : Sto} {l : Addr} {zs ys : List Pv} {Q : QV} (h : MkI S0 l zs S) (hl : zs.length + ys.length ≤ sizeLine) (q : ∀ l' S', MkI S0 l' (zs ++ ys) S' → Q (.ref l') S') : oAddT (.ref l) (.lst ys) S Q := by
  unfold oAddT
  have e : rdM S (.ref l) = some zs := by simp [rdM, h.at_]
  rw [e]
  exact ⟨hl, fun b hb => q b _ (h.add hb)⟩
theorem mk_ckL {S0 S : Sto} {l : Addr} {zs : List Pv} (h : MkI S0 l zs S) : ckL S (.ref l) = true := by
  unfold ckL rdL
  simp [h.at_]
theorem mk_add {S0 S : Sto} {l : Addr} {zs ys : List Pv} {Q : QV} (h : MkI S0 l zs S) (hl : zs.length + ys.length ≤ sizeLine) (q : Q (.lst (zs ++ ys)) S) : oAdd (.ref l) (.lst ys) S Q := by
  have e : rdM S (.ref l) = some zs := by simp [rdM, h.at_]
  show (match rdM S (.ref l), rdM S (.lst ys) with
    | some xs, some ys => xs.length + ys.length ≤ sizeLine ∧ Q (.lst (xs ++ ys)) S
    | _, _ => False)
  rw [e]
  exact ⟨hl, q⟩
theorem ixl_i {S : Sto} {xs : List Pv} {i : Int} {p : Pv} {Q : QV} (e : atI xs i = some p) (q : Q p S) : oIx (.lst xs) (.int i) S Q := by
  show (match rdL S (.lst xs) with
    | some xs => (match atI xs i with | some p => Q p S | none => False)
    | none => False)
  show (match atI xs i with | some p => Q p S | none => False)
  rw [e]
  exact q
/-- what is walked stays readable while lists are made -/
def LineI (S : Sto) (p : Pv) (xs : List Pv) : Prop := ∃ gd, itP S p = some (xs, gd) ∧ ∀ S', Sub S S' → gd S'
theorem LineI.lst {S : Sto} {xs : List Pv} : LineI S (.lst xs) xs := ⟨_, rfl, fun _ _ => trivial⟩
theorem LineI.ref {S : Sto} {a : Addr} {xs : List Pv} (h : S a = some (.lst xs)) : LineI S (.ref a) xs := ⟨fun S' => S' a = some (.lst xs), by simp [itP, h], fun S' s => s a _ h⟩
theorem MkI.up {S0 S S' : Sto} {l : Addr} {zs : List Pv} (h : MkI S0 l zs S) (s : Sub S S') : MkI S0 l zs S' := ⟨s _ _ h.at_, h.old, fun b m hb => s b m (h.sub b m hb)⟩
/-- a slot that is set by one of several ways: what comes behind is looked at once -/
theorem set_rest {i : Nat} {e : PF} {R : PFS} {D : Ends'} {ρ : Env'} {S : Sto} (I : Pv → Sto → Prop) (hR : ∀ p S', I p S' → R D (ρ.set i (some p)) S') (h : ∀ kk : QV, (∀ p S', I p S' → kk p S') → e ρ S kk) : gSeq (gSet i e) R D ρ S := h _ hR
/-- .. and of any step -/
theorem seq_rest {g R : PFS} {D : Ends'} {ρ : Env'} {S : Sto} (I : Env' → Sto → Prop) (hR : ∀ ρ' S', I ρ' S' → R D ρ' S') (h : ∀ kk : Env' → Sto → Prop, (∀ ρ' S', I ρ' S' → kk ρ' S') → g { D with nx := kk } ρ S) : gSeq g R D ρ S := h _ hR
theorem itP_up {S S' : Sto} {p : Pv} {r : List Pv × (Sto → Prop)} (h : itP S p = some r) (s : Sub S S') : itP S' p = some r := by
  cases p with
  | ref a =>
    simp only [itP] at h ⊢
    split at h
    · rename_i xs e
      rw [s a _ e]; exact h
    · cases h
  | _ => exact h
/-- .. what comes behind is told by a name -/
theorem if_restR {c : PFB} {A R : PFS} {D : Ends'} {ρ : Env'} {S : Sto} (I : Sto → Prop) (hR : ∀ S', I S' → R D ρ S') (h : ∀ R' : Env' → Sto → Prop, (∀ S', I S' → R' ρ S') → gIf c A gNext { D with nx := R' } ρ S) : gSeq (gIf c A gNext) R D ρ S := h (R D) hR
end PL

/-! sorted(d) of a dict with any number of keys, all texts. -/
namespace PL
open PySem PySem.Spec PyProof.Rows L2
open PySem.W (dataLe dataLt alike AllAlike EachIs)
theorem each_strs {s : Shared} : ∀ {us : List Value} {ks : List Str}, StrsAre us ks → EachIs (fun u (k : Str) => RelV (.str k) u) us ks ∧ EachIs (fun u (k : Str) => ∃ as, Reads s.heap u (PyData.str k) as) us ks
  | _, _, .nil => ⟨.nil, .nil⟩
  | _, _, .cons x t r => ⟨.cons ⟨t, rfl⟩ (each_strs (s := s) r).1, .cons ⟨_, .str _ _⟩ (each_strs (s := s) r).2⟩
theorem vals_each : ∀ {us : List Value} {ks : List Str}, EachIs (fun u (k : Str) => RelV (.str k) u) us ks → Vals (ks.map V.str) us
  | _, _, .nil => .nil
  | _, _, .cons h h2 => .cons h (vals_each h2)
theorem call_sortedL {X : Cx} (hu : X.A.units + 64 < cLine) (hcalm : X.calm = true) : CallR X (.builtin "sorted") (fun xs H Q => ∃ (a : Addr) (kvs : List (Key × V)) (ks : List Str), xs = [.ref a] ∧ Rd H a (.dK kvs) ∧ kvs.map (·.1) = ks.map Sum.inr ∧ ks.length ≤ sizeLine ∧
    ∀ p, H p = none → Q (.ref p) (upd H p (.lst ((ks.mergeSort (dataLe false PyData.str)).map V.str)))) := by
  intro pins s σ H xs us Q I r q
  obtain ⟨a, kvs, ks, ex, hd, hks, h16, q⟩ := q
  subst ex
  obtain ⟨u, eu, rx⟩ := vals1 r
  subst eu
  cases rx
  obtain ⟨z, lo, vs, rel, dd⟩ := dk_rd I.hok hd
  obtain ⟨ep, hat⟩ := dd.dictAt
  have hkeys : vs.map (·.1) = ks.map Sum.inr := rel.keys.symm.trans hks
  have hl : vs.length = ks.length := by
    have e := congrArg List.length hkeys
    rw [List.length_map, List.length_map] at e
    exact e
  refine Calls.call_function_entry PyProof.Rows.kind_sorted PyProof.Rows.plain_sorted PyProof.Rows.entry_sorted (PyProof.Rows.args_sorted1 _) ?_
  unfold Builtin.«sorted»
  refine wpAny_bind (m := checkCount "sorted" 1 1 _) (wpAny_pure ?_)
  refine wpAny_bind (PySem.W.kdu_collect (A := X.A.in1) (PySem.W.kdl_dict (knd := mixKind X.prog X.w) (kvs := vs) (ep := ep) lo) (I.ok.hd hcalm) hat (by rw [hl]; exact h16) fun h' tk acc hk hacc => ?_)
  have hal : acc.toList.length = ks.length := by rw [Array.length_toList, hacc.1, hl]
  have hS : StrsAre acc.toList ks := strs_at hal fun j v e => by
    obtain ⟨k, x, e1, e2⟩ := hacc.2 j v (by rw [← Array.getElem?_toList]; exact e)
    have e3 : (vs.map (·.1))[j]? = some k := by rw [List.getElem?_map, e1]; all_goals rfl
    rw [hkeys, List.getElem?_map] at e3
    cases e4 : ks[j]? with
    | none => rw [e4] at e3; cases e3
    | some y =>
      rw [e4] at e3
      have e5 : Sum.inr y = k := Option.some.inj e3
      subst e5
      obtain ⟨t, ev⟩ := Value.isStrOf_shape (x := y) (v := v) e2
      exact ⟨y, t, rfl, ev⟩
  have I1 : Inv X pins σ H { s with heap := h', toks := tk } := I.kept hk
  refine wpAny_bind (wpAny_newList ?_ (by rw [hal]; exact h16))
  have hoL : (h'.push (seqObj "list" acc.toList.toArray 0)).get? h'.objs.size = some (seqObj "list" acc.toList.toArray 0) := Heap.get?_push_size _ rfl
  show wpAny _ _ _ _ _ { s with heap := h'.push (seqObj "list" acc.toList.toArray 0), toks := tk }
  obtain ⟨er1, er2⟩ := each_strs (s := { s with heap := PySem.W.sortingHeap (h'.push (seqObj "list" acc.toList.toArray 0)) h'.objs.size acc.toList, toks := tk }) hS
  have al : AllAlike (ks.map PyData.str) := fun d hd d' hd' => by
    obtain ⟨x, _, rfl⟩ := List.mem_map.mp hd
    obtain ⟨y, _, rfl⟩ := List.mem_map.mp hd'
    rfl
  have so : PySem.W.Sortable (ks.map PyData.str) := .inr fun d hd => by
    obtain ⟨x, _, rfl⟩ := List.mem_map.mp hd
    exact ⟨(by intro e; cases e), (by intro xs e; cases e)⟩
  have S := PySem.W.SortsAt.data (prog := X.prog) (w := X.w) (A := X.A.in1.in1) (s := { s with heap := PySem.W.sortingHeap (h'.push (seqObj "list" acc.toList.toArray 0)) h'.objs.size acc.toList, toks := tk }) (PySem.W.each_map (R := fun v d => ∃ as, Reads (PySem.W.sortingHeap (h'.push (seqObj "list" acc.toList.toArray 0)) h'.objs.size acc.toList) v d as) PyData.str er2) al so (fun d hd => by
    obtain ⟨x, _, rfl⟩ := List.mem_map.mp hd
    show X.A.units + 2 + (PyData.str x).depth < cLine
    have : (PyData.str x).depth = 0 := rfl
    omega)
  refine wpAny_bind (wpAny_holding (wpAny_call_entry PyProof.Rows.slot_list_sort ⟨_, hoL, rfl⟩ PyProof.Rows.entry_list_sort
    (PySem.W.list_sort_vals (s := { s with heap := h'.push (seqObj "list" acc.toList.toArray 0), toks := tk }) hoL S (by rw [hal]; exact h16) ⟨_, rfl, ?_⟩)
    (PyProof.Rows.args_list_sort _)))
  have g := vals_each (PySem.W.sortVals_data false er1 er2 al)
  generalize PySem.W.sortVals (PySem.W.dataKind (PySem.W.sortingHeap (h'.push (seqObj "list" acc.toList.toArray 0)) h'.objs.size acc.toList) (ks.map PyData.str)) false acc.toList acc.toList = out at g ⊢
  obtain ⟨e', he'⟩ := PyProof.Rows.sortedHeap_at (vs := acc.toList) (out := out.toArray) hoL
  have hlen : ((ks.mergeSort (dataLe false PyData.str)).map V.str).length ≤ sizeLine := by
    rw [List.length_map, List.length_mergeSort]
    exact h16
  refine wpAny_pure ⟨_, rfl, .ref h'.objs.size, upd H h'.objs.size (.lst ((ks.mergeSort (dataLe false PyData.str)).map V.str)), I1.laid (t' := tk) (fun b u e => ?_) (Nat.le_refl _)
    (show ObjOk X.prog X.w _ _ _ (.lst _) from ⟨hlen, out, e', g, he'⟩), rfl, q _ (I1.hok.fresh (Nat.le_refl _))⟩
  have hb : b < h'.objs.size := Heap.lt_size e
  rw [PyProof.Rows.sortedHeap_old (Nat.ne_of_lt hb) (by rw [size_push']; exact Nat.lt_succ_of_lt hb)]
  exact Heap.get?_push_of_some _ e
/-- sorted(d), any number of keys -/
def oSortedDL : On := fun ps S Q => match ps with
  | [x] => (match dcP S x with | some (ks, _) => ∃ ss : List Str, ks = ss.map .str ∧ ss.length ≤ sizeLine ∧ Q (.lst ((sortS ss).map .str)) S | none => False)
  | _ => False
section
variable {X : Cx} {S0 : Sto} {H0 : Hp} {a : Expr} {pos p : Pos} {fs : PFs}
theorem pv_sortedDL (hu : X.A.units + 64 < cLine) (hc : X.calm = true) (hm : X.mg "sorted" = none) (ha : PVs X S0 H0 [a] fs) (hg : Gl X "sorted" := by rfl) (he : starEach (a :: []) X.env = (false, eval a X.env) :: starEach [] X.env := by rfl) (hpl : (backTo pos (starEach [] X.env)).any (·.1) = false := by rfl) : PV X S0 H0 (.Call (.Name "sorted" p) [a] [] pos) (fN oSortedDL fs) := by
  refine pv_callB (call_sortedL hu hc) ⟨fun x S Q Q' h q => ?_, fun x S Qp v H Q rx rs h k => ?_⟩ hg hm (by decide +kernel) ha (by decide) (by decide) he hpl
  · unfold oSortedDL at q ⊢
    split at q
    · split at q
      · obtain ⟨ss, h1, h2, h3⟩ := q
        exact ⟨ss, h1, h2, h _ _ h3⟩
      · exact q
    · exact q
  · unfold oSortedDL at h
    split at h
    · obtain ⟨v1, rfl, r1⟩ := rx.one
      split at h
      · rename_i ks xs e1
        obtain ⟨ss, rfl, h2, h3⟩ := h
        obtain ⟨b, kvs, e2, hr, q1, q2⟩ := dcP_rep rs e1 r1
        have ek := keys_rep q1 fun z hz => by obtain ⟨s, _, rfl⟩ := List.mem_map.mp hz; rfl
        have ek2 : kvs.map (·.1) = ss.map Sum.inr := by
          have : (kvs.map (·.1)).map some = (ss.map Sum.inr).map some := by
            rw [List.map_map, List.map_map]
            rw [List.map_map] at ek
            exact ek.symm
          exact (List.map_inj_right (fun a b e => Option.some.inj e)).mp this
        refine ⟨b, kvs, ss, by rw [e2], hr, ek2, h2, fun p' np => ?_⟩
        have es : ss.mergeSort (dataLe false PyData.str) = sortS ss := by
          unfold sortS
          have e : dataLe false PyData.str = leS := by
            funext a b
            exact congrFun (congrFun (PySem.W.dataLe_str (k := fun s : Str => s)) a) b
          rw [e]
        rw [es]
        have rsn : RepS X.K (upd H p' (.lst ((sortS ss).map V.str))) S := rs.newT np
        exact k _ S _ _ h3 ⟨p', (sortS ss).map V.str, rfl, upd_same, rs.fr np, strs_rep _⟩ rsn (Ext.newT (K := X.K) np)
      · exact h.elim
    · exact h.elim
end
end PL

/-! Codes merged: plain. The fewest codes of a region. -/
namespace PL
open PySem PySem.Spec PyProof.Rows L2
abbrev Cd := List Nat
def Vd (c : Cd) : Prop := c.length ≤ 9 ∧ ∀ d ∈ c, d < 4
/-- a finest code -/
def Ptn (d : Cd) : Prop := d.length = 9 ∧ ∀ x ∈ d, x < 4
def covC (L : List Cd) (d : Cd) : Prop := ∃ c ∈ L, c <+: d
def Anti (L : List Cd) : Prop := ∀ a ∈ L, ∀ b ∈ L, a <+: b → a = b
def Quad (L : List Cd) (b : Cd) : Prop := ∀ s, s < 4 → b ++ [s] ∈ L
theorem Vd.sub {a c : Cd} (h : Vd c) (p : a <+: c) : Vd a := ⟨Nat.le_trans p.length_le h.1, fun d hd => h.2 d (p.subset hd)⟩
theorem pre_snoc {p c : Cd} {s : Nat} : p <+: c ++ [s] ↔ p = c ++ [s] ∨ p <+: c := List.prefix_concat_iff
theorem fill {L : List Cd} (hq : ∀ b, ¬ Quad L b) : ∀ (k : Nat) (c : Cd), Vd c → c.length + k = 9 → (∀ d, Ptn d → c <+: d → covC L d) → (∀ p, p <+: c → p ≠ c → p ∉ L) → c ∈ L
  | 0, c, hv, hl, hc, hp => by
    obtain ⟨e, he, pe⟩ := hc c ⟨by omega, hv.2⟩ (List.prefix_refl c)
    by_cases h : e = c
    · rw [← h]; exact he
    · exact absurd he (hp e pe h)
  | k + 1, c, hv, hl, hc, hp => by
    by_cases h : c ∈ L
    · exact h
    exfalso
    refine hq c fun s hs => fill hq k (c ++ [s]) ⟨by rw [List.length_append, List.length_singleton]; omega, fun d hd => ?_⟩ (by rw [List.length_append, List.length_singleton]; omega) (fun d hd pd => hc d hd ((List.prefix_append c [s]).trans pd)) fun p pp np => ?_
    · rcases List.mem_append.mp hd with z | z
      · exact hv.2 d z
      · rw [List.mem_singleton.mp z]; exact hs
    · rcases pre_snoc.mp pp with z | z
      · exact absurd z np
      · by_cases e : p = c
        · rw [e]; exact h
        · exact hp p z e
theorem drop_pre {c : Cd} (h : c ≠ []) : ∃ s, c = c.dropLast ++ [s] := ⟨c.getLast h, (List.dropLast_concat_getLast h).symm⟩
/-- an order of codes without a full four: told by what it has -/
theorem canon_mem {L : List Cd} (hv : ∀ c ∈ L, Vd c) (ha : Anti L) (hq : ∀ b, ¬ Quad L b) (c : Cd) :
    c ∈ L ↔ Vd c ∧ (∀ d, Ptn d → c <+: d → covC L d) ∧ (c = [] ∨ ∃ d, Ptn d ∧ c.dropLast <+: d ∧ ¬ covC L d) := by
  constructor
  · intro h
    refine ⟨hv c h, fun d _ p => ⟨c, h, p⟩, ?_⟩
    by_cases hc : c = []
    · exact .inl hc
    refine .inr (Classical.byContradiction fun no => ?_)
    have all : ∀ d, Ptn d → c.dropLast <+: d → covC L d := fun d hd p => Classical.byContradiction fun z => no ⟨d, hd, p, z⟩
    obtain ⟨s0, e0⟩ := drop_pre hc
    have hl : c.length = c.dropLast.length + 1 := by
      have := congrArg List.length e0
      rw [List.length_append, List.length_singleton] at this
      exact this
    have h9 := (hv c h).1
    refine hq c.dropLast fun s hs => fill hq (9 - c.length) (c.dropLast ++ [s]) ⟨by rw [List.length_append, List.length_singleton]; omega, fun d hd => ?_⟩ (by rw [List.length_append, List.length_singleton]; omega) (fun d hd pd => all d hd ((List.prefix_append _ [s]).trans pd)) fun p pp np hp => ?_
    · rcases List.mem_append.mp hd with z | z
      · exact (hv c h).2 d (List.dropLast_subset c z)
      · rw [List.mem_singleton.mp z]; exact hs
    · rcases pre_snoc.mp pp with z | z
      · exact np z
      · have e := ha p hp c h (z.trans (List.dropLast_prefix c))
        have := z.length_le
        rw [e] at this
        omega
  · rintro ⟨h1, h2, h3⟩
    refine fill hq (9 - c.length) c h1 (by have := h1.1; omega) h2 fun p pp np hp => ?_
    rcases h3 with h3 | ⟨d, hd, pd, nd⟩
    · subst h3
      exact np (List.prefix_nil.mp pp)
    · have hc : c ≠ [] := fun e => by subst e; exact np (List.prefix_nil.mp pp)
      obtain ⟨s0, e0⟩ := drop_pre hc
      have : p <+: c.dropLast := by
        rw [e0] at pp np
        rcases pre_snoc.mp pp with z | z
        · exact absurd z np
        · exact z
      exact nd ⟨p, hp, this.trans pd⟩
/-- how far the merging has come: no full four of codes longer than k -/
structure Mg (R : Cd → Prop) (k : Nat) (L : List Cd) : Prop where
  vd : ∀ c ∈ L, Vd c
  nd : L.Nodup
  anti : Anti L
  cov : ∀ d, Ptn d → (covC L d ↔ R d)
  deep : ∀ b, k ≤ b.length → ¬ Quad L b
theorem Mg.begin {L : List Cd} (hv : ∀ c ∈ L, Vd c) (nd : L.Nodup) (ha : Anti L) : Mg (covC L) 9 L := ⟨hv, nd, ha, fun _ _ => Iff.rfl, fun b hb q => by
  have := (hv _ (q 0 (by decide))).1
  rw [List.length_append, List.length_singleton] at this
  omega⟩
theorem Mg.step {R : Cd → Prop} {k : Nat} {L L' : List Cd} {b : Cd} (h : Mg R k L) (hb : b.length + 1 = k) (q : Quad L b) (hm : ∀ c, c ∈ L' ↔ (c ∈ L ∧ ∀ s, s < 4 → c ≠ b ++ [s]) ∨ c = b) (nd : L'.Nodup) : Mg R k L' := by
  have vb : Vd b := (h.vd _ (q 0 (by decide))).sub (List.prefix_append b [0])
  have l9 : b.length + 1 ≤ 9 := by
    have := (h.vd _ (q 0 (by decide))).1
    rwa [List.length_append, List.length_singleton] at this
  have nb : b ∉ L := fun z => by
    have := congrArg List.length (h.anti b z _ (q 0 (by decide)) (List.prefix_append b [0]))
    rw [List.length_append, List.length_singleton] at this
    omega
  have kid : ∀ c, (∀ d ∈ c, d < 4) → b <+: c → c ≠ b → ∃ s, s < 4 ∧ b ++ [s] <+: c := fun c hc p n => by
    obtain ⟨t, e⟩ := p
    cases t with
    | nil => rw [List.append_nil] at e; exact absurd e.symm n
    | cons s t =>
      refine ⟨s, hc s (by rw [← e]; simp), t, ?_⟩
      rw [← e, List.append_assoc]; rfl
  refine ⟨fun c hc => ?_, nd, fun x hx y hy p => ?_, fun d hd => ?_, fun b' hb' q' => ?_⟩
  · rcases (hm c).mp hc with z | z
    · exact h.vd c z.1
    · rw [z]; exact vb
  · rcases (hm x).mp hx with ⟨x1, x2⟩ | rfl
    · rcases (hm y).mp hy with ⟨y1, y2⟩ | rfl
      · exact h.anti x x1 y y1 p
      · exact absurd (h.anti x x1 _ (q 0 (by decide)) (p.trans (List.prefix_append y [0]))) (x2 0 (by decide))
    · rcases (hm y).mp hy with ⟨y1, y2⟩ | rfl
      · exfalso
        obtain ⟨s, hs, ps⟩ := kid y (h.vd y y1).2 p (fun e => nb (by rw [← e]; exact y1))
        exact y2 s hs (h.anti _ (q s hs) y y1 ps).symm
      · rfl
  · rw [← h.cov d hd]
    constructor
    · rintro ⟨c, hc, p⟩
      rcases (hm c).mp hc with ⟨c1, _⟩ | rfl
      · exact ⟨c, c1, p⟩
      · obtain ⟨s, hs, ps⟩ := kid d hd.2 p (fun e => by have := hd.1; rw [e] at this; omega)
        exact ⟨_, q s hs, ps⟩
    · rintro ⟨c, hc, p⟩
      by_cases z : ∃ s, s < 4 ∧ c = b ++ [s]
      · obtain ⟨s, hs, rfl⟩ := z
        exact ⟨b, (hm b).mpr (.inr rfl), (List.prefix_append b [s]).trans p⟩
      · exact ⟨c, (hm c).mpr (.inl ⟨hc, fun s hs e => z ⟨s, hs, e⟩⟩), p⟩
  · refine h.deep b' hb' fun s hs => ?_
    rcases (hm _).mp (q' s hs) with ⟨z, _⟩ | z
    · exact z
    · have := congrArg List.length z
      rw [List.length_append, List.length_singleton] at this
      omega
/-- the begins gone through so far have no full four any more -/
structure Mi (R : Cd → Prop) (k : Nat) (L0 : List Cd) (done : List Cd) (L : List Cd) : Prop where
  mg : Mg R k L
  old : ∀ c ∈ L, c.length = k → c ∈ L0
  no : ∀ b ∈ done, ¬ Quad L b
theorem Mi.begin {R : Cd → Prop} {k : Nat} {L : List Cd} (h : Mg R k L) : Mi R k L [] L := ⟨h, fun c hc _ => hc, fun b hb => by cases hb⟩
theorem Mi.skip {R : Cd → Prop} {k : Nat} {L0 done L : List Cd} {b : Cd} (h : Mi R k L0 done L) (nq : ¬ Quad L b) : Mi R k L0 (done ++ [b]) L := ⟨h.mg, h.old, fun x hx => (List.mem_append.mp hx).elim (h.no x) fun z => by rw [List.mem_singleton.mp z]; exact nq⟩
theorem Mi.step {R : Cd → Prop} {k : Nat} {L0 done L L' : List Cd} {b : Cd} (h : Mi R k L0 done L) (hd : ∀ x ∈ done, x.length + 1 = k) (hb : b.length + 1 = k) (q : Quad L b) (hm : ∀ c, c ∈ L' ↔ (c ∈ L ∧ ∀ s, s < 4 → c ≠ b ++ [s]) ∨ c = b) (nd : L'.Nodup) : Mi R k L0 (done ++ [b]) L' := by
  have back : ∀ c ∈ L', c.length = k → c ∈ L ∧ ∀ s, s < 4 → c ≠ b ++ [s] := fun c hc hl => by
    rcases (hm c).mp hc with z | z
    · exact z
    · rw [z] at hl; omega
  refine ⟨h.mg.step hb q hm nd, fun c hc hl => h.old c (back c hc hl).1 hl, fun x hx q' => ?_⟩
  rcases List.mem_append.mp hx with z | z
  · exact h.no x z fun s hs => (back _ (q' s hs) (by rw [List.length_append, List.length_singleton]; exact hd x z)).1
  · rw [List.mem_singleton.mp z] at q'
    exact (back _ (q' 0 (by decide)) (by rw [List.length_append, List.length_singleton]; exact hb)).2 0 (by decide) rfl
theorem Mi.fin {R : Cd → Prop} {k : Nat} {L0 done L : List Cd} (h : Mi R (k + 1) L0 done L) (all : ∀ c ∈ L0, c.length = k + 1 → c.dropLast ∈ done) : Mg R k L := ⟨h.mg.vd, h.mg.nd, h.mg.anti, h.mg.cov, fun b hb q => by
  by_cases e : b.length = k
  · have hl : (b ++ [0]).length = k + 1 := by rw [List.length_append, List.length_singleton, e]
    have := all _ (h.old _ (q 0 (by decide)) hl) hl
    rw [List.dropLast_concat] at this
    exact h.no b this q
  · exact h.mg.deep b (by omega) q⟩
/-! ### in their order -/
def leC (a b : Cd) : Bool := leS (cdS a) (cdS b)
def sortC (L : List Cd) : List Cd := L.mergeSort leC
theorem sortC_map (L : List Cd) : sortS (L.map cdS) = (sortC L).map cdS := by
  unfold sortS sortC
  rw [List.map_mergeSort (s := leS) (f := cdS)]
  intro a _ b _; rfl
theorem cd_inj {a b : Cd} (h : cdS a = cdS b) : a = b := by
  have h1 := congrArg (fun x : Str => x.cps.toList) h
  have h1 : a.map (· + 48) = b.map (· + 48) := by simpa [cdS] using h1
  exact (List.map_inj_right (fun x y e => by omega)).mp h1
theorem leC_anti {a b : Cd} (h : leC a b = true) (h' : leC b a = true) : a = b := by
  unfold leC leS at *
  rw [decide_eq_true_eq] at h h'
  exact cd_inj (str_ext (List.le_antisymm h h'))
theorem sortC_pw (L : List Cd) : (sortC L).Pairwise fun a b => leC a b = true := List.pairwise_mergeSort (le := leC) (fun a b c => leS_trans (cdS a) (cdS b) (cdS c)) (fun a b => leS_total (cdS a) (cdS b)) L
theorem sortC_mem {L : List Cd} {c : Cd} : c ∈ sortC L ↔ c ∈ L := (List.mergeSort_perm L leC).mem_iff
theorem sortC_nd {L : List Cd} (h : L.Nodup) : (sortC L).Nodup := (List.mergeSort_perm L leC).nodup_iff.mpr h
/-- the fewest codes of a region, rising -/
structure IsM (R : Cd → Prop) (M : List Cd) : Prop where
  vd : ∀ c ∈ M, Vd c
  nd : M.Nodup
  anti : Anti M
  cov : ∀ d, Ptn d → (covC M d ↔ R d)
  no : ∀ b, ¬ Quad M b
  pw : M.Pairwise fun a b => leC a b = true
theorem Mg.isM {R : Cd → Prop} {L : List Cd} (h : Mg R 0 L) : IsM R (sortC L) := ⟨fun c hc => h.vd c (sortC_mem.mp hc), sortC_nd h.nd, fun a ha b hb => h.anti a (sortC_mem.mp ha) b (sortC_mem.mp hb), fun d hd => by
    rw [← h.cov d hd]
    exact ⟨fun ⟨c, hc, p⟩ => ⟨c, sortC_mem.mp hc, p⟩, fun ⟨c, hc, p⟩ => ⟨c, sortC_mem.mpr hc, p⟩⟩, fun b q => h.deep b (Nat.zero_le _) fun s hs => sortC_mem.mp (q s hs), sortC_pw L⟩
theorem IsM.uniq {R R' : Cd → Prop} {M M' : List Cd} (h : IsM R M) (h' : IsM R' M') (e : ∀ d, Ptn d → (R d ↔ R' d)) : M = M' := by
  have hc : ∀ d, Ptn d → (covC M d ↔ covC M' d) := fun d hd => by rw [h.cov d hd, h'.cov d hd, e d hd]
  have hm : ∀ c, c ∈ M ↔ c ∈ M' := fun c => by
    rw [canon_mem h.vd h.anti h.no, canon_mem h'.vd h'.anti h'.no]
    refine and_congr_right fun _ => and_congr ?_ (or_congr_right ?_)
    · exact forall_congr' fun d => forall_congr' fun hd => forall_congr' fun _ => hc d hd
    · refine exists_congr fun d => ?_
      constructor
      · rintro ⟨a, b, c⟩; exact ⟨a, b, fun z => c ((hc d a).mpr z)⟩
      · rintro ⟨a, b, c⟩; exact ⟨a, b, fun z => c ((hc d a).mp z)⟩
  exact (nodup_perm h.nd h'.nd hm).eq_of_pairwise (le := fun a b => leC a b = true) (fun a b _ _ h1 h2 => leC_anti h1 h2) h.pw h'.pw
end PL

/-! Codes merged: dicts of codes; what is left of a code without others. -/
namespace PL
open PySem PySem.Spec PyProof.Rows L2
/-- codes as they are told -/
abbrev cvs (L : List Cd) : List Pv := L.map cdK
abbrev trs (L : List Cd) : List Pv := L.map fun _ => Pv.bl true
theorem ky_cvs (L : List Cd) : kysOk (cvs L) := fun z hz => by
  obtain ⟨c, _, rfl⟩ := List.mem_map.mp hz
  rfl
theorem getK_cvs (c : Cd) : ∀ L : List Cd, getK (cvs L) (trs L) (cdK c) = if c ∈ L then some (.bl true) else none
  | [] => by rw [if_neg (by simp)]; rfl
  | x :: L => by
    show (if kyP (cdK x) = kyP (cdK c) then some (Pv.bl true) else getK (cvs L) (trs L) (cdK c)) = _
    by_cases e : x = c
    · rw [if_pos (kyc_inj.mpr e), if_pos (by rw [e]; exact List.mem_cons_self)]
    · rw [if_neg fun z => e (kyc_inj.mp z), getK_cvs c L]
      by_cases h : c ∈ L
      · rw [if_pos h, if_pos (List.mem_cons_of_mem _ h)]
      · rw [if_neg h, if_neg (fun z => by rcases List.mem_cons.mp z with z | z; exact e z.symm; exact h z)]
theorem getK_is (c : Cd) (L : List Cd) : (getK (cvs L) (trs L) (cdK c)).isSome = decide (c ∈ L) := by
  rw [getK_cvs]
  by_cases h : c ∈ L
  · rw [if_pos h, decide_eq_true h]; rfl
  · rw [if_neg h, decide_eq_false h]; rfl
def addC (L : List Cd) (c : Cd) : List Cd := if c ∈ L then L else L ++ [c]
theorem putD_c (L : List Cd) (c : Cd) : putD (cvs L) (trs L) (cdK c) (.bl true) = (cvs (addC L c), trs (addC L c)) := by
  unfold addC
  by_cases h : c ∈ L
  · rw [if_pos h]
    unfold putD
    rw [if_pos (List.any_eq_true.mpr ⟨cdK c, List.mem_map.mpr ⟨c, h, rfl⟩, decide_eq_true rfl⟩)]
    congr 1
    induction L with
    | nil => rfl
    | cons x L ih =>
      have all : ∀ L : List Cd, ((cvs L).zip (trs L)).map (fun p => if kyP p.1 = kyP (cdK c) then Pv.bl true else p.2) = trs L := by
        intro L
        induction L with
        | nil => rfl
        | cons y L ih =>
          show (if kyP (cdK y) = kyP (cdK c) then Pv.bl true else Pv.bl true) :: ((cvs L).zip (trs L)).map _ = _
          rw [ih, ite_self]; rfl
      exact all (x :: L)
  · rw [if_neg h, putD_new h]
    show (List.map cdK (L ++ [c]), List.map (fun _ => Pv.bl true) L ++ [Pv.bl true]) = (List.map cdK (L ++ [c]), List.map (fun _ => Pv.bl true) (L ++ [c]))
    rw [List.map_append (l₁ := L) (l₂ := [c]) (f := fun _ => Pv.bl true)]
    rfl
def addAll (L J : List Cd) : List Cd := J.foldl addC L
theorem mgD_c : ∀ (J L : List Cd), mgD (cvs L) (trs L) (cvs J) (trs J) = (cvs (addAll L J), trs (addAll L J))
  | [], L => by cases L <;> rfl
  | c :: J, L => by
    show mgD (putD (cvs L) (trs L) (cdK c) (.bl true)).1 (putD (cvs L) (trs L) (cdK c) (.bl true)).2 (cvs J) (trs J) = _
    rw [putD_c, mgD_c J (addC L c)]; rfl
theorem addC_mem {L : List Cd} {c x : Cd} : x ∈ addC L c ↔ x ∈ L ∨ x = c := by
  unfold addC
  split
  · rename_i h
    exact ⟨.inl, fun z => z.elim id fun e => by rw [e]; exact h⟩
  · rw [List.mem_append, List.mem_singleton]
theorem addC_nd {L : List Cd} {c : Cd} (h : L.Nodup) : (addC L c).Nodup := by
  unfold addC
  split
  · exact h
  · rename_i n
    rw [List.nodup_append]
    exact ⟨h, by simp, fun a ha b hb e => by rw [List.mem_singleton.mp hb] at e; exact n (by rw [← e]; exact ha)⟩
theorem addC_len {L : List Cd} {c : Cd} : (addC L c).length ≤ L.length + 1 := by
  unfold addC
  split
  · omega
  · rw [List.length_append, List.length_singleton]; omega
theorem addAll_mem : ∀ {J L : List Cd} {x : Cd}, x ∈ addAll L J ↔ x ∈ L ∨ x ∈ J
  | [], L, x => by simp [addAll]
  | c :: J, L, x => by
    show x ∈ addAll (addC L c) J ↔ _
    rw [addAll_mem, addC_mem, List.mem_cons, or_assoc]
theorem addAll_nd : ∀ {J L : List Cd}, L.Nodup → (addAll L J).Nodup
  | [], _, h => h
  | _ :: J, _, h => addAll_nd (J := J) (addC_nd h)
theorem addAll_len : ∀ {J L : List Cd}, (addAll L J).length ≤ L.length + J.length
  | [], L => Nat.le_refl _
  | c :: J, L => by
    have h1 := addAll_len (J := J) (L := addC L c)
    have h2 := addC_len (L := L) (c := c)
    show (addAll (addC L c) J).length ≤ _
    rw [List.length_cons]; omega
/-- the codes of a list, each once -/
def dedC (J : List Cd) : List Cd := addAll [] J
theorem dedC_mem {J : List Cd} {x : Cd} : x ∈ dedC J ↔ x ∈ J := by unfold dedC; rw [addAll_mem]; simp
theorem dedC_nd {J : List Cd} : (dedC J).Nodup := addAll_nd List.nodup_nil
theorem dedC_len {J : List Cd} : (dedC J).length ≤ J.length := by have := addAll_len (J := J) (L := []); simpa [dedC] using this
theorem mgD_ded (J : List Cd) : mgD [] [] (cvs J) (trs J) = (cvs (dedC J), trs (dedC J)) := mgD_c J []
theorem dropD_c (L : List Cd) (c : Cd) : dropD (cvs L) (trs L) (cdK c) = (cvs (L.filter fun x => decide (x ≠ c)), trs (L.filter fun x => decide (x ≠ c))) := by
  unfold dropD
  have main : ∀ L : List Cd, ((cvs L).zip (trs L)).filter (fun p => decide (kyP p.1 ≠ kyP (cdK c))) = (L.filter fun x => decide (x ≠ c)).map fun x => (cdK x, Pv.bl true) := by
    intro L
    induction L with
    | nil => rfl
    | cons x L ih =>
      show List.filter _ ((cdK x, Pv.bl true) :: (cvs L).zip (trs L)) = _
      rw [List.filter_cons, List.filter_cons, ih]
      by_cases e : x = c
      · rw [if_neg (by simp [kyc_inj.mpr e]), if_neg (by simp [e])]
      · have e2 : ¬ kyP (cdK x) = kyP (cdK c) := fun z => e (kyc_inj.mp z)
        rw [if_pos (by simpa using e2), if_pos (by simpa using e)]; rfl
  rw [main L, List.unzip_eq_map, List.map_map, List.map_map]
  rfl
/-! ### begins -/
/-- the begins there may be: with each its own begins, not many of a length -/
structure Us (U : List Cd) : Prop where
  cl : ∀ u ∈ U, ∀ p, p <+: u → p ∈ U
  few : ∀ k, (U.filter fun u => decide (u.length = k)).length < 4000
  all : U.length ≤ 400
def Bg (U L : List Cd) : Prop := ∀ c ∈ L, c.dropLast ∈ U
theorem Bg.app {U a b : List Cd} (h : Bg U a) (h' : Bg U b) : Bg U (a ++ b) := fun c hc => (List.mem_append.mp hc).elim (h c) (h' c)
theorem nodup_leC {α : Type} [DecidableEq α] : ∀ {l D : List α}, l.Nodup → (∀ x ∈ l, x ∈ D) → l.length ≤ D.length
  | [], _, _, _ => Nat.zero_le _
  | a :: l, D, h, hs => by
    have ha := hs a List.mem_cons_self
    have h2 := nodup_leC (l := l) (D := D.erase a) (List.nodup_cons.mp h).2 fun x hx => (List.mem_erase_of_ne (fun e => (List.nodup_cons.mp h).1 (by rw [← e]; exact hx))).mpr (hs x (List.mem_cons_of_mem _ hx))
    rw [List.length_erase_of_mem ha] at h2
    have := List.length_pos_of_mem ha
    rw [List.length_cons]
    omega
theorem bg_len {U L : List Cd} (h : Bg U L) (nd : L.Nodup) (hv : ∀ c ∈ L, ∀ d ∈ c, d < 4) : L.length ≤ 4 * U.length + 1 := by
  have sub : ∀ c ∈ L, c ∈ [] :: U.flatMap fun u => [u ++ [0], u ++ [1], u ++ [2], u ++ [3]] := fun c hc => by
    by_cases e : c = []
    · rw [e]; exact List.mem_cons_self
    · obtain ⟨s, es⟩ := drop_pre e
      refine List.mem_cons_of_mem _ (List.mem_flatMap.mpr ⟨c.dropLast, h c hc, ?_⟩)
      have h4 := hv c hc s (by rw [es]; simp)
      have : s = 0 ∨ s = 1 ∨ s = 2 ∨ s = 3 := by omega
      rw [es]
      simp only [List.dropLast_concat]
      rcases this with rfl | rfl | rfl | rfl <;> simp
  have l := nodup_leC nd sub
  have : (U.flatMap fun u => [u ++ [0], u ++ [1], u ++ [2], u ++ [3]]).length = 4 * U.length := by
    clear l sub h
    induction U with
    | nil => rfl
    | cons u U ih =>
      rw [List.flatMap_cons, List.length_append, ih, List.length_cons]
      simp only [List.length_cons, List.length_nil]
      omega
  rw [List.length_cons, this] at l
  exact l
end PL

/-! What is left of a code without others; what two rows of codes have in common: plain. -/
namespace PL
open PySem PySem.Spec PyProof.Rows L2
def pB (a b : Cd) : Bool := a.isPrefixOf b
theorem pB_iff {a b : Cd} : pB a b = true ↔ a <+: b := List.isPrefixOf_iff_prefix
/-- does a row have the code's tile? -/
def hasB (L : List Cd) (c : Cd) : Bool := L.any fun o => pB o c
theorem hasB_iff {L : List Cd} {c : Cd} : hasB L c = true ↔ covC L c := by
  unfold hasB covC
  rw [List.any_eq_true]
  exact exists_congr fun o => and_congr_right fun _ => pB_iff
theorem hasB_no {L : List Cd} {c : Cd} : hasB L c = false ↔ ¬ covC L c := by rw [← hasB_iff, Bool.not_eq_true]
def kidsC : List Nat := [0, 1, 2, 3]
def lessC : Nat → Cd → List Cd → List Cd
  | 0, _, _ => []
  | n + 1, c, o => if hasB o c = true then [] else if o.filter (pB c) = [] then [c] else kidsC.flatMap fun s => lessC n (c ++ [s]) (o.filter (pB c))
theorem pre_cmp {a b d : Cd} (h : a <+: d) (h' : b <+: d) : a <+: b ∨ b <+: a := List.prefix_or_prefix_of_prefix h h'
/-- all that is said of what is left -/
structure LsOk (c : Cd) (o : List Cd) (P : List Cd) : Prop where
  pre : ∀ p ∈ P, c <+: p
  vd : ∀ p ∈ P, Vd p
  nd : P.Nodup
  anti : Anti P
  cov : ∀ d, Ptn d → (covC P d ↔ c <+: d ∧ ¬ covC o d)
theorem vd_snoc {c : Cd} {s : Nat} (h : Vd c) (hl : c.length < 9) (hs : s < 4) : Vd (c ++ [s]) := ⟨by rw [List.length_append, List.length_singleton]; omega, fun d hd => by
  rcases List.mem_append.mp hd with z | z
  · exact h.2 d z
  · rw [List.mem_singleton.mp z]; exact hs⟩
theorem kid_lt {s : Nat} (h : s ∈ kidsC) : s < 4 := by
  simp only [kidsC, List.mem_cons, List.not_mem_nil, or_false] at h
  omega
theorem lt_kid {s : Nat} (h : s < 4) : s ∈ kidsC := by
  simp only [kidsC, List.mem_cons, List.not_mem_nil, or_false]
  omega
/-- a code within which another lies is no finest one -/
theorem inner_lt {c : Cd} {o : List Cd} (ho : ∀ x ∈ o, Vd x) (h1 : hasB o c = false) (h2 : o.filter (pB c) ≠ []) : c.length < 9 ∧ ∃ x ∈ o, c <+: x ∧ c ≠ x := by
  obtain ⟨x, hx⟩ := List.exists_mem_of_ne_nil _ h2
  obtain ⟨x1, x2⟩ := List.mem_filter.mp hx
  have p := pB_iff.mp x2
  have ne : c ≠ x := fun e => hasB_no.mp h1 ⟨x, x1, by rw [e]; exact List.prefix_refl x⟩
  refine ⟨?_, x, x1, p, ne⟩
  have := (ho x x1).1
  by_cases e : c.length = x.length
  · exact absurd (p.eq_of_length e) ne
  · have := p.length_le
    omega
theorem less_ok : ∀ (n : Nat) (c : Cd) (o : List Cd), Vd c → (∀ x ∈ o, Vd x) → 10 ≤ n + c.length → LsOk c o (lessC n c o)
  | 0, c, o, hv, _, hn => by have := hv.1; omega
  | n + 1, c, o, hv, ho, hn => by
    unfold lessC
    cases h1 : hasB o c with
    | true =>
      rw [if_pos rfl]
      refine ⟨(fun p h => by cases h), (fun p h => by cases h), List.nodup_nil, (fun a h => by cases h), fun d hd => ⟨(fun ⟨x, hx, _⟩ => by cases hx), fun ⟨p, z⟩ => ?_⟩⟩
      obtain ⟨x, hx, px⟩ := hasB_iff.mp h1
      exact absurd ⟨x, hx, px.trans p⟩ z
    | false =>
      rw [if_neg (by decide)]
      by_cases h2 : o.filter (pB c) = []
      · rw [if_pos h2]
        refine ⟨fun p h => by rw [List.mem_singleton.mp h]; exact List.prefix_refl c, fun p h => by rw [List.mem_singleton.mp h]; exact hv, by simp, fun a ha b hb _ => by rw [List.mem_singleton.mp ha, List.mem_singleton.mp hb], fun d hd => ?_⟩
        constructor
        · rintro ⟨x, hx, px⟩
          rw [List.mem_singleton.mp hx] at px
          refine ⟨px, fun ⟨y, hy, py⟩ => ?_⟩
          rcases pre_cmp py px with z | z
          · exact hasB_no.mp h1 ⟨y, hy, z⟩
          · have : y ∈ o.filter (pB c) := List.mem_filter.mpr ⟨hy, pB_iff.mpr z⟩
            rw [h2] at this
            cases this
        · rintro ⟨p, _⟩
          exact ⟨c, List.mem_singleton.mpr rfl, p⟩
      · rw [if_neg h2]
        obtain ⟨hl, _⟩ := inner_lt ho h1 h2
        have ih : ∀ s ∈ kidsC, LsOk (c ++ [s]) (o.filter (pB c)) (lessC n (c ++ [s]) (o.filter (pB c))) := fun s hs => less_ok n (c ++ [s]) _ (vd_snoc hv hl (kid_lt hs)) (fun x hx => ho x (List.mem_filter.mp hx).1) (by rw [List.length_append, List.length_singleton]; omega)
        have far : ∀ s t : Nat, ∀ a b : Cd, c ++ [s] <+: a → c ++ [t] <+: b → a <+: b → s = t := fun s t a b ha hb hab => by
          have h3 := ha.trans hab
          rcases pre_cmp h3 hb with z | z
          · have := z.eq_of_length (by simp)
            simpa using this
          · have := z.eq_of_length (by simp)
            simpa using this.symm
        refine ⟨fun p hp => ?_, fun p hp => ?_, ?_, fun a ha b hb hab => ?_, fun d hd => ?_⟩
        · obtain ⟨s, hs, hp⟩ := List.mem_flatMap.mp hp
          exact (List.prefix_append c [s]).trans ((ih s hs).pre p hp)
        · obtain ⟨s, hs, hp⟩ := List.mem_flatMap.mp hp
          exact (ih s hs).vd p hp
        · refine List.pairwise_flatMap.mpr ⟨fun s hs => (ih s hs).nd, ?_⟩
          have pw : kidsC.Pairwise (· ≠ ·) := by decide
          refine List.Pairwise.imp_of_mem (fun {s t} hs ht ne => ?_) pw
          intro a ha b hb e
          subst e
          exact ne (far s t a a ((ih s hs).pre a ha) ((ih t ht).pre a hb) (List.prefix_refl a))
        · obtain ⟨s, hs, ha⟩ := List.mem_flatMap.mp ha
          obtain ⟨t, ht, hb⟩ := List.mem_flatMap.mp hb
          have e := far s t a b ((ih s hs).pre a ha) ((ih t ht).pre b hb) hab
          subst e
          exact (ih s hs).anti a ha b hb hab
        · constructor
          · rintro ⟨x, hx, px⟩
            obtain ⟨s, hs, hx⟩ := List.mem_flatMap.mp hx
            obtain ⟨p1, p2⟩ := ((ih s hs).cov d hd).mp ⟨x, hx, px⟩
            have pc := (List.prefix_append c [s]).trans p1
            refine ⟨pc, fun ⟨y, hy, py⟩ => ?_⟩
            rcases pre_cmp py pc with z | z
            · exact hasB_no.mp h1 ⟨y, hy, z⟩
            · exact p2 ⟨y, List.mem_filter.mpr ⟨hy, pB_iff.mpr z⟩, py⟩
          · rintro ⟨pc, nc⟩
            obtain ⟨t, et⟩ := pc
            cases t with
            | nil =>
              rw [List.append_nil] at et
              have := hd.1
              rw [← et] at this
              omega
            | cons s t =>
              have hs : s < 4 := hd.2 s (by rw [← et]; simp)
              have p1 : c ++ [s] <+: d := ⟨t, by rw [← et, List.append_assoc]; rfl⟩
              obtain ⟨x, hx, px⟩ := ((ih s (lt_kid hs)).cov d hd).mpr ⟨p1, fun ⟨y, hy, py⟩ => nc ⟨y, (List.mem_filter.mp hy).1, py⟩⟩
              exact ⟨x, List.mem_flatMap.mpr ⟨s, lt_kid hs, hx⟩, px⟩
theorem pre_drop {c x : Cd} (h : c <+: x) (ne : c ≠ x) : c <+: x.dropLast := by
  have hx : x ≠ [] := fun e => by subst e; exact ne (List.prefix_nil.mp h)
  obtain ⟨s, e⟩ := drop_pre hx
  rw [e] at h ne
  rcases pre_snoc.mp h with z | z
  · exact absurd z ne
  · exact z
theorem less_bg {U : List Cd} (hU : Us U) : ∀ (n : Nat) (c : Cd) (o : List Cd), c.dropLast ∈ U → Bg U o → (∀ x ∈ o, Vd x) → Bg U (lessC n c o)
  | 0, c, o, _, _, _ => fun p hp => by cases hp
  | n + 1, c, o, hc, ho, hv => by
    unfold lessC
    cases h1 : hasB o c with
    | true => rw [if_pos rfl]; exact fun p hp => by cases hp
    | false =>
      rw [if_neg (by decide)]
      by_cases h2 : o.filter (pB c) = []
      · rw [if_pos h2]
        exact fun p hp => by rw [List.mem_singleton.mp hp]; exact hc
      · rw [if_neg h2]
        obtain ⟨_, x, hx, px, ne⟩ := inner_lt hv h1 h2
        have hcU : c ∈ U := hU.cl _ (ho x hx) c (pre_drop px ne)
        intro p hp
        obtain ⟨s, hs, hp⟩ := List.mem_flatMap.mp hp
        exact less_bg hU n (c ++ [s]) _ (by rw [List.dropLast_concat]; exact hcU) (fun y hy => ho y (List.mem_filter.mp hy).1) (fun y hy => hv y (List.mem_filter.mp hy).1) p hp
/-- all that is left of a row -/
def woutC (L o : List Cd) : List Cd := L.flatMap fun c => lessC 11 c o
theorem wout_ok {L o : List Cd} (hL : ∀ c ∈ L, Vd c) (nd : L.Nodup) (ha : Anti L) (ho : ∀ x ∈ o, Vd x) :
    (∀ p ∈ woutC L o, Vd p) ∧ (woutC L o).Nodup ∧ Anti (woutC L o) ∧ ∀ d, Ptn d → (covC (woutC L o) d ↔ covC L d ∧ ¬ covC o d) := by
  have ih : ∀ c ∈ L, LsOk c o (lessC 11 c o) := fun c hc => less_ok 11 c o (hL c hc) ho (by omega)
  have far : ∀ c ∈ L, ∀ e ∈ L, ∀ a b : Cd, c <+: a → e <+: b → a <+: b → c = e := fun c hc e he a b h1 h2 h3 => by
    rcases pre_cmp (h1.trans h3) h2 with z | z
    · exact ha c hc e he z
    · exact (ha e he c hc z).symm
  refine ⟨fun p hp => ?_, ?_, fun a hA b hB hab => ?_, fun d hd => ?_⟩
  · obtain ⟨c, hc, hp⟩ := List.mem_flatMap.mp hp
    exact (ih c hc).vd p hp
  · refine List.pairwise_flatMap.mpr ⟨fun c hc => (ih c hc).nd, List.Pairwise.imp_of_mem (fun {c e} hc he ne => ?_) nd⟩
    intro a h1 b h2 eab
    subst eab
    exact ne (far c hc e he a a ((ih c hc).pre a h1) ((ih e he).pre a h2) (List.prefix_refl a))
  · obtain ⟨c, hc, hA⟩ := List.mem_flatMap.mp hA
    obtain ⟨e, he, hB⟩ := List.mem_flatMap.mp hB
    have := far c hc e he a b ((ih c hc).pre a hA) ((ih e he).pre b hB) hab
    subst this
    exact (ih c hc).anti a hA b hB hab
  · constructor
    · rintro ⟨x, hx, px⟩
      obtain ⟨c, hc, hx⟩ := List.mem_flatMap.mp hx
      obtain ⟨p1, p2⟩ := ((ih c hc).cov d hd).mp ⟨x, hx, px⟩
      exact ⟨⟨c, hc, p1⟩, p2⟩
    · rintro ⟨⟨c, hc, pc⟩, nc⟩
      obtain ⟨x, hx, px⟩ := ((ih c hc).cov d hd).mpr ⟨pc, nc⟩
      exact ⟨x, List.mem_flatMap.mpr ⟨c, hc, hx⟩, px⟩
theorem wout_bg {U L o : List Cd} (hU : Us U) (h1 : Bg U L) (h2 : Bg U o) (ho : ∀ x ∈ o, Vd x) : Bg U (woutC L o) := fun p hp => by
  obtain ⟨c, hc, hp⟩ := List.mem_flatMap.mp hp
  exact less_bg hU 11 c o (h1 c hc) h2 ho p hp
/-- what two rows have in common -/
def comC (L o : List Cd) : List Cd := L.filter (hasB o) ++ o.filter (hasB L)
theorem com_mem {L o : List Cd} {c : Cd} : c ∈ comC L o ↔ (c ∈ L ∧ covC o c) ∨ (c ∈ o ∧ covC L c) := by
  unfold comC
  rw [List.mem_append, List.mem_filter, List.mem_filter, hasB_iff, hasB_iff]
theorem com_ok {L o : List Cd} (hL : ∀ c ∈ L, Vd c) (ho : ∀ c ∈ o, Vd c) (h1 : Anti L) (h2 : Anti o) :
    (∀ p ∈ comC L o, Vd p) ∧ Anti (comC L o) ∧ ∀ d, Ptn d → (covC (comC L o) d ↔ covC L d ∧ covC o d) := by
  have mix : ∀ {L o : List Cd}, Anti L → Anti o → ∀ a ∈ L, covC o a → ∀ b ∈ o, covC L b → a <+: b → a = b := fun {L o} h1 h2 a ha oa b hb lb p => by
    obtain ⟨x, hx, px⟩ := oa
    have e := h2 x hx b hb (px.trans p)
    rw [e] at px
    exact p.eq_of_length (Nat.le_antisymm p.length_le px.length_le)
  refine ⟨fun p hp => (com_mem.mp hp).elim (fun z => hL p z.1) fun z => ho p z.1, fun a ha b hb p => ?_, fun d hd => ?_⟩
  · rcases com_mem.mp ha with ⟨a1, a2⟩ | ⟨a1, a2⟩ <;> rcases com_mem.mp hb with ⟨b1, b2⟩ | ⟨b1, b2⟩
    · exact h1 a a1 b b1 p
    · exact mix h1 h2 a a1 a2 b b1 b2 p
    · exact mix h2 h1 a a1 a2 b b1 b2 p
    · exact h2 a a1 b b1 p
  · constructor
    · rintro ⟨x, hx, px⟩
      rcases com_mem.mp hx with ⟨x1, y, hy, py⟩ | ⟨x1, y, hy, py⟩
      · exact ⟨⟨x, x1, px⟩, ⟨y, hy, py.trans px⟩⟩
      · exact ⟨⟨y, hy, py.trans px⟩, ⟨x, x1, px⟩⟩
    · rintro ⟨⟨x, hx, px⟩, ⟨y, hy, py⟩⟩
      rcases pre_cmp px py with z | z
      · exact ⟨y, com_mem.mpr (.inr ⟨hy, x, hx, z⟩), py⟩
      · exact ⟨x, com_mem.mpr (.inl ⟨hx, y, hy, z⟩), px⟩
theorem com_bg {U L o : List Cd} (h1 : Bg U L) (h2 : Bg U o) : Bg U (comC L o) := fun p hp => (com_mem.mp hp).elim (fun z => h1 p z.1) fun z => h2 p z.1
end PL

/-! Codes merged: walks. -/
namespace PL
open PySem PySem.Spec PyProof.Rows L2 PLS
open PySem.W (dataLe dataLt alike AllAlike EachIs)
theorem lc2_depC {α β : Type} {gd : Sto → Prop} {t t1 : Tg} {fi1 : PFI} {te : PF} {ρ : Env'} {vs1 : List Nat} {D : Addr} {Q : List Pv → Sto → Prop} {S : Sto} (N : Nat) (ys : α → List β) (g : α → Pv) (g1 : β → Pv) (f : α → β → Pv) (hD : S D = none) (hg : ∀ S', gd S') : ∀ (xs : List α) (acc : List Pv), acc.length + xs.length * N ≤ sizeLine →
    (∀ x ∈ xs, (ys x).length ≤ N ∧ ∀ S', Has S S' → ∃ ρ2, bindT S' t (g x) ρ = some ρ2 ∧ (∀ k, k ((ys x).map g1) tru S' → fi1 ρ2 S' k) ∧ ∀ y ∈ ys x, ∀ S'', Has S S'' → ∃ ρ3, bindT S'' t1 (g1 y) (wipeP ρ2 vs1) = some ρ3 ∧ ∀ k : QV, k (f x y) S'' → te ρ3 S'' k) →
    Q (acc ++ xs.flatMap fun x => (ys x).map (f x)) S → lc2W gd t fYes fi1 t1 fYes te ρ vs1 D Q (xs.map g) acc S
  | [], acc, _, _, q => ⟨hg _, by simpa using q⟩
  | x :: xs, acc, l, h, q => by
    refine ⟨hg _, ?_⟩
    obtain ⟨hl, hh⟩ := h x List.mem_cons_self
    obtain ⟨ρ2, e, h1, h2⟩ := hh _ (Has.put (m := .lst acc) hD)
    rw [e]
    have l' : acc.length + (N + xs.length * N) ≤ sizeLine := by
      rw [List.length_cons, Nat.succ_mul] at l
      omega
    refine h1 _ ⟨put_same, ?_⟩
    rw [del_put hD]
    refine lcW_pure g1 (fun _ => true) (f x) hD (fun _ _ => trivial) (ys x) acc (by omega) (fun y hy S' hs => ?_) ?_
    · obtain ⟨ρ3, e3, h3⟩ := h2 y hy S' hs
      exact ⟨ρ3, e3, fun kk z => z, fun _ k z => h3 k z⟩
    · rw [List.filter_eq_self.mpr (fun _ _ => rfl)]
      refine lc2_depC N ys g g1 f hD hg xs _ (by rw [List.length_append, List.length_map]; omega) (fun z hz => h z (List.mem_cons_of_mem _ hz)) ?_
      rw [List.flatMap_cons, ← List.append_assoc] at q
      exact q
/-- a set comprehension that changes nothing -/
theorem scW_filter {α : Type} {gd : Sto → Prop} {t : Tg} {tt : PFB} {te : PF} {ρ : Env'} {C : Pv → Prop} {Q : List Pv → Sto → Prop} {S : Sto} (g : α → Pv) (c : α → Bool) (f : α → Pv) (hg : gd S) : ∀ (xs : List α) (acc : List Pv),
    (∀ x ∈ xs, ∃ ρ2, bindT S t (g x) ρ = some ρ2 ∧ (∀ kk : Bool → Sto → Prop, kk (c x) S → tt ρ2 S kk) ∧ (c x = true → C (f x) ∧ ∀ k : QV, k (f x) S → te ρ2 S k)) →
    Q (acc ++ (xs.filter c).map f) S → scW gd t tt te ρ C Q (xs.map g) acc S
  | [], acc, _, q => ⟨hg, by simpa using q⟩
  | x :: xs, acc, h, q => by
    refine ⟨hg, ?_⟩
    obtain ⟨ρ2, e, h1, h2⟩ := h x List.mem_cons_self
    rw [e]
    refine h1 _ ?_
    rw [List.filter_cons] at q
    cases hc : c x with
    | true =>
      rw [hc, if_pos rfl, List.map_cons] at q
      obtain ⟨h3, h4⟩ := h2 hc
      refine h4 _ ⟨h3, scW_filter g c f hg xs _ (fun y hy => h y (List.mem_cons_of_mem _ hy)) ?_⟩
      rw [List.append_assoc]
      exact q
    | false =>
      rw [hc, if_neg (by decide)] at q
      exact scW_filter g c f hg xs acc (fun y hy => h y (List.mem_cons_of_mem _ hy)) q
/-- codes told of a set -/
theorem set_cds {bs : List Cd} {ys : List Pv} (h : setOf (cvs bs) ys) : ∃ B : List Cd, ys = cvs B ∧ B.Nodup ∧ ∀ b, b ∈ B ↔ b ∈ bs := by
  obtain ⟨nd, hm⟩ := h
  have main : ∀ ys : List Pv, (∀ y ∈ ys, y ∈ cvs bs) → ∃ B : List Cd, ys = cvs B := by
    intro ys
    induction ys with
    | nil => exact fun _ => ⟨[], rfl⟩
    | cons y ys ih =>
      intro h
      obtain ⟨B, e⟩ := ih fun z hz => h z (List.mem_cons_of_mem _ hz)
      obtain ⟨c, _, ec⟩ := List.mem_map.mp (h y List.mem_cons_self)
      exact ⟨c :: B, by rw [e, ← ec]; rfl⟩
  obtain ⟨B, rfl⟩ := main ys fun y hy => (hm y).mp hy
  have inj : ∀ a b : Cd, cdK a = cdK b → a = b := fun a b e => cdS_inj (by injection e)
  refine ⟨B, rfl, List.Pairwise.of_map cdK (fun x y hne e => hne (congrArg cdK e)) nd, fun b => ?_⟩
  have := hm (cdK b)
  rw [List.mem_map, List.mem_map] at this
  constructor
  · intro hb
    obtain ⟨c, hc, e⟩ := this.mp ⟨b, hb, rfl⟩
    rw [← inj _ _ e]; exact hc
  · intro hb
    obtain ⟨c, hc, e⟩ := this.mpr ⟨b, hb, rfl⟩
    rw [← inj _ _ e]; exact hc
theorem sort_cvs (B : List Cd) : sortP (cvs B) = cvs (sortC B) := by
  have e : cvs B = (B.map cdS).map Pv.str := by rw [List.map_map]; rfl
  rw [e, sortP_str, sortC_map, List.map_map]
  rfl
theorem alike_cvs (B : List Cd) : AllAlike ((cvs B).map toD) ∧ PySem.W.Sortable ((cvs B).map toD) := by
  have st : ∀ d ∈ (cvs B).map toD, ∃ x, d = PyData.str x := fun d hd => by
    obtain ⟨p, hp, rfl⟩ := List.mem_map.mp hd
    obtain ⟨c, _, rfl⟩ := List.mem_map.mp hp
    exact ⟨_, rfl⟩
  refine ⟨fun d hd d' hd' => ?_, .inr fun d hd => ?_⟩
  · obtain ⟨x, rfl⟩ := st d hd
    obtain ⟨y, rfl⟩ := st d' hd'
    rfl
  · obtain ⟨x, rfl⟩ := st d hd
    exact ⟨(by intro e; cases e), (by intro xs e; cases e)⟩
/-- four codes taken out -/
def remC (b : Cd) (L : List Cd) (done : List Nat) : List Cd := done.foldl (fun L s => L.filter fun x => decide (x ≠ b ++ [s])) L
theorem rem_snoc (b : Cd) (L : List Cd) (done : List Nat) (s : Nat) : remC b L (done ++ [s]) = (remC b L done).filter fun x => decide (x ≠ b ++ [s]) := by
  unfold remC
  rw [List.foldl_append]; rfl
theorem rem_mem (b : Cd) : ∀ (done : List Nat) (L : List Cd) (x : Cd), x ∈ remC b L done ↔ x ∈ L ∧ ∀ s ∈ done, x ≠ b ++ [s]
  | [], L, x => by simp [remC]
  | s :: done, L, x => by
    show x ∈ remC b (L.filter fun x => decide (x ≠ b ++ [s])) done ↔ _
    rw [rem_mem b done, List.mem_filter, decide_eq_true_eq]
    constructor
    · rintro ⟨⟨h1, h2⟩, h3⟩
      exact ⟨h1, fun t ht => (List.mem_cons.mp ht).elim (fun e => by rw [e]; exact h2) (h3 t)⟩
    · rintro ⟨h1, h2⟩
      exact ⟨⟨h1, h2 s List.mem_cons_self⟩, fun t ht => h2 t (List.mem_cons_of_mem _ ht)⟩
theorem rem_nd (b : Cd) : ∀ (done : List Nat) (L : List Cd), L.Nodup → (remC b L done).Nodup
  | [], _, h => h
  | s :: done, L, h => rem_nd b done _ (h.sublist List.filter_sublist)
/-- a row of codes, as a tuple or as a list -/
def seqV (b : Bool) (L : List Cd) : Pv := if b then .tup (cvs L) else .lst (cvs L)
theorem it_seq (b : Bool) (L : List Cd) (S : Sto) : itP S (seqV b L) = some (cvs L, fun _ => True) := by cases b <;> rfl
end PL

/-! Codes merged: texts of codes, the test of a full four, what is sought. -/
namespace PL
open PySem PySem.Spec PyProof.Rows L2 PLS
theorem cut_last {c : Cd} (h : c ≠ []) : cutS (cdS c) none (some (-1)) = cdS c.dropLast := by
  have hl := List.length_pos_iff.mpr h
  have e1 : HT.sIx (cdS c).length 0 none = 0 := rfl
  have e2 : HT.sIx (cdS c).length (cdS c).length (some (-1)) = c.length - 1 := by
    show (if (-1 : Int) < 0 then ((-1 : Int) + ((cdS c).length : Int)).toNat else min (-1 : Int).toNat (cdS c).length) = _
    rw [if_pos (by decide), cd_len]; omega
  unfold cutS
  rw [e1, e2, List.drop_zero, Nat.sub_zero]
  refine str_ext ?_
  show (c.map (· + 48)).take (c.length - 1) = c.dropLast.map (· + 48)
  rw [← List.map_take, List.dropLast_eq_take]
theorem cd_kid (b : Cd) (s : Nat) : cdS b ++ (⟨#[s + 48]⟩ : Str) = cdS (b ++ [s]) := cd_app b [s]
theorem fig_chars : chars (Str.ofString "0123") = kidsC.map fg := by
  rw [show Str.ofString "0123" = cdS kidsC from by decide +kernel, cd_chars]
def quadB (L : List Cd) (b : Cd) : Bool := (kidsC.map fun s => decide (b ++ [s] ∈ L)).all id
theorem quadB_iff {L : List Cd} {b : Cd} : quadB L b = true ↔ Quad L b := by
  unfold quadB Quad
  rw [List.all_map, List.all_eq_true]
  constructor
  · intro h s hs
    exact of_decide_eq_true (h s (lt_kid hs))
  · intro h s hs
    exact decide_eq_true (h s (kid_lt hs))
theorem quadB_no {L : List Cd} {b : Cd} (h : quadB L b = false) : ¬ Quad L b := fun q => by rw [quadB_iff.mpr q] at h; cases h
theorem Bg.quad {U L : List Cd} {b : Cd} (h : Bg U L) (q : Quad L b) : b ∈ U := by
  have := h _ (q 0 (by decide))
  rwa [List.dropLast_concat] at this
/-- one code for a full four -/
def mrgC (L : List Cd) (b : Cd) : List Cd := addC (remC b L kidsC) b
theorem mrgC_mem {L : List Cd} {b c : Cd} : c ∈ mrgC L b ↔ (c ∈ L ∧ ∀ s, s < 4 → c ≠ b ++ [s]) ∨ c = b := by
  unfold mrgC
  rw [addC_mem, rem_mem]
  exact or_congr_left (and_congr_right fun _ => ⟨fun h s hs => h s (lt_kid hs), fun h s hs => h s (kid_lt hs)⟩)
theorem mrgC_nd {L : List Cd} {b : Cd} (h : L.Nodup) : (mrgC L b).Nodup := addC_nd (rem_nd b kidsC L h)
theorem mrgC_bg {U L : List Cd} {b : Cd} (hU : Us U) (h : Bg U L) (hb : b ∈ U) : Bg U (mrgC L b) := fun c hc => by
  rcases mrgC_mem.mp hc with z | z
  · exact h c z.1
  · rw [z]; exact hU.cl b hb _ (List.dropLast_prefix b)
theorem sortC_bg {U L : List Cd} (h : Bg U L) : Bg U (sortC L) := fun c hc => h c (sortC_mem.mp hc)
theorem dedC_bg {U L : List Cd} (h : Bg U L) : Bg U (dedC L) := fun c hc => h c (dedC_mem.mp hc)
theorem dedC_cov {L : List Cd} {d : Cd} : covC (dedC L) d ↔ covC L d := ⟨fun ⟨c, hc, p⟩ => ⟨c, dedC_mem.mp hc, p⟩, fun ⟨c, hc, p⟩ => ⟨c, dedC_mem.mpr hc, p⟩⟩
theorem Mg.ded {L : List Cd} (hv : ∀ c ∈ L, Vd c) (ha : Anti L) : Mg (covC L) 9 (dedC L) := by
  have h := Mg.begin (L := dedC L) (fun c hc => hv c (dedC_mem.mp hc)) dedC_nd fun a h1 b h2 => ha a (dedC_mem.mp h1) b (dedC_mem.mp h2)
  exact ⟨h.vd, h.nd, h.anti, fun d hd => (h.cov d hd).trans dedC_cov, h.deep⟩
theorem Mg.len {R : Cd → Prop} {k : Nat} {U L : List Cd} (h : Mg R k L) (hU : Us U) (hb : Bg U L) : L.length ≤ 1601 := by
  have h1 := bg_len hb h.nd fun c hc => (h.vd c hc).2
  have := hU.all
  omega
theorem IsM.len {R : Cd → Prop} {U M : List Cd} (h : IsM R M) (hU : Us U) (hb : Bg U M) : M.length ≤ 1601 := by
  have h1 := bg_len hb h.nd fun c hc => (h.vd c hc).2
  have := hU.all
  omega
/-- the begins looked at -/
def begsC (L : List Cd) (k : Nat) : List Cd := (L.filter fun c => decide (c.length = k)).map List.dropLast
theorem begs_mem {L : List Cd} {k : Nat} {b : Cd} : b ∈ begsC L k ↔ ∃ c ∈ L, c.length = k ∧ b = c.dropLast := by
  unfold begsC
  rw [List.mem_map]
  constructor
  · rintro ⟨c, h, rfl⟩
    exact ⟨c, (List.mem_filter.mp h).1, of_decide_eq_true (List.mem_filter.mp h).2, rfl⟩
  · rintro ⟨c, h, hl, rfl⟩
    exact ⟨c, List.mem_filter.mpr ⟨h, decide_eq_true hl⟩, rfl⟩
/-- where the begins lie -/
def candC (U : List Cd) (k : Nat) : List Pv := cvs (U.filter fun u => decide (u.length = k))
theorem cand_lt {U : List Cd} (h : Us U) (k : Nat) : (candC U k).length + 1 < PLS.setLim false := by
  have := h.few k
  show (candC U k).length + 1 < 4096
  unfold candC
  rw [List.length_map]
  omega
theorem cand_mem {U L : List Cd} (h : Bg U L) {k : Nat} {c : Cd} (hc : c ∈ L) (hl : c.length = k + 1) : cdK c.dropLast ∈ candC U k := List.mem_map.mpr ⟨_, List.mem_filter.mpr ⟨h c hc, decide_eq_true (by rw [List.length_dropLast, hl]; rfl)⟩, rfl⟩
end PL

/-! Codes merged: what the laws compare. -/
namespace PL
open PySem PySem.Spec PyProof.Rows L2 PLS
theorem IsM.of {R R' : Cd → Prop} {M : List Cd} (h : IsM R M) (e : ∀ d, Ptn d → (R d ↔ R' d)) : IsM R' M := ⟨h.vd, h.nd, h.anti, fun d hd => (h.cov d hd).trans (e d hd), h.no, h.pw⟩
theorem IsM.nil {R : Cd → Prop} (e : ∀ d, Ptn d → ¬ R d) : IsM R [] := ⟨(fun c h => by cases h), List.nodup_nil, (fun a h => by cases h), fun d hd => ⟨(fun ⟨c, hc, _⟩ => nomatch hc), fun z => absurd z (e d hd)⟩, (fun b q => nomatch q 0 (by decide)), List.Pairwise.nil⟩
theorem vd_ext {c : Cd} (h : Vd c) : ∃ d, Ptn d ∧ c <+: d := ⟨c ++ List.replicate (9 - c.length) 0, ⟨by rw [List.length_append, List.length_replicate]; have := h.1; omega, fun x hx => by
  rcases List.mem_append.mp hx with z | z
  · exact h.2 x z
  · rw [(List.mem_replicate.mp z).2]; decide⟩, List.prefix_append _ _⟩
/-- codes told as the program wants them -/
structure CsOk (M : List Cd) : Prop where
  vd : ∀ c ∈ M, Vd c
  nd : M.Nodup
  anti : Anti M
  pw : M.Pairwise fun a b => leC a b = true
theorem IsM.cs {R : Cd → Prop} {M : List Cd} (h : IsM R M) : CsOk M := ⟨h.vd, h.nd, h.anti, h.pw⟩
theorem CsOk.sort {M : List Cd} (hv : ∀ c ∈ M, Vd c) (nd : M.Nodup) (ha : Anti M) : CsOk (sortC M) := ⟨fun c hc => hv c (sortC_mem.mp hc), sortC_nd nd, fun a h1 b h2 => ha a (sortC_mem.mp h1) b (sortC_mem.mp h2), sortC_pw M⟩
theorem codeN_vd {c : Cd} (h : Vd c) : codeN 9 (cdS c) = true := codeN_cd h.2 h.1 (by decide)
theorem strs_cvs (M : List Cd) : cvs M = (M.map cdS).map Pv.str := by rw [List.map_map]; rfl
theorem CsOk.codes {M : List Cd} (h : CsOk M) : codesP 9 (.tup (cvs M)) = true := by
  rw [strs_cvs]
  show (match allS ((M.map cdS).map Pv.str) with | some ss => codesS 9 ss | none => false) = true
  rw [allS_str]
  show codesS 9 (M.map cdS) = true
  unfold codesS
  rw [Bool.and_eq_true]
  refine ⟨List.all_eq_true.mpr fun s hs => ?_, (adj_pw (r := apart) (fun _ _ _ => apart_trans) _).mpr ?_⟩
  · obtain ⟨c, hc, rfl⟩ := List.mem_map.mp hs
    exact codeN_vd (h.vd c hc)
  · refine List.pairwise_map.mpr ?_
    have := h.pw.and h.nd
    refine List.Pairwise.imp_of_mem (fun {a b} ha hb z => ?_) this
    unfold apart
    have e1 : strLt (cdS a) (cdS b) = true := leS_lt z.1 fun e => z.2 (cd_inj e)
    have e2 : preS (cdS a) (cdS b) = false := by
      rw [preS_cd]
      cases q : a.isPrefixOf b with
      | false => rfl
      | true => exact absurd (h.anti a ha b hb (List.isPrefixOf_iff_prefix.mp q)) z.2
    rw [e1, e2]; rfl
theorem sm_cvs {M : List Cd} (hv : ∀ c ∈ M, Vd c) (hl : M.length ≤ 1000) : smP (.tup (cvs M)) = true := by
  have main : ∀ M : List Cd, (∀ c ∈ M, Vd c) → smPs (cvs M) = true := by
    intro M
    induction M with
    | nil => exact fun _ => rfl
    | cons c M ih =>
      intro hv
      show (smP (cdK c) && smPs (cvs M)) = true
      rw [ih fun x hx => hv x (List.mem_cons_of_mem _ hx), Bool.and_true]
      have h := hv c List.mem_cons_self
      show (decide ((cdS c).length ≤ 1000) && asc (cdS c)) = true
      rw [Bool.and_eq_true]
      exact ⟨decide_eq_true (by rw [cd_len]; have := h.1; omega), (codeN_asc (codeN_vd h)).1⟩
  show (decide ((cvs M).length ≤ 1000) && smPs (cvs M)) = true
  rw [main M hv, Bool.and_true]
  exact decide_eq_true (by rw [List.length_map]; exact hl)
/-- what both have and what the first has alone, put together -/
theorem join_ok {A B : Cd → Prop} {X Y : List Cd} (hx : IsM (fun d => A d ∧ B d) X) (hy : IsM (fun d => A d ∧ ¬ B d) Y) : (X ++ Y).Nodup ∧ Anti (X ++ Y) ∧ (∀ c ∈ X ++ Y, Vd c) ∧ ∀ d, Ptn d → (covC (X ++ Y) d ↔ A d) := by
  have no : ∀ a ∈ X, ∀ b ∈ Y, ∀ c, Vd c → a <+: c → ¬ b <+: c := fun a ha b hb c hc p1 p2 => by
    obtain ⟨d, hd, pd⟩ := vd_ext hc
    exact ((hy.cov d hd).mp ⟨b, hb, p2.trans pd⟩).2 ((hx.cov d hd).mp ⟨a, ha, p1.trans pd⟩).2
  refine ⟨List.nodup_append.mpr ⟨hx.nd, hy.nd, fun a ha b hb e => no a ha b hb b (hy.vd b hb) (by rw [e]; exact List.prefix_refl b) (List.prefix_refl b)⟩, fun a ha b hb p => ?_, fun c hc => (List.mem_append.mp hc).elim (hx.vd c) (hy.vd c), fun d hd => ?_⟩
  · rcases List.mem_append.mp ha with a1 | a1 <;> rcases List.mem_append.mp hb with b1 | b1
    · exact hx.anti a a1 b b1 p
    · exact absurd (List.prefix_refl b) (no a a1 b b1 b (hy.vd b b1) p)
    · exact absurd p (no b b1 a a1 b (hx.vd b b1) (List.prefix_refl b))
    · exact hy.anti a a1 b b1 p
  · constructor
    · rintro ⟨c, hc, p⟩
      rcases List.mem_append.mp hc with z | z
      · exact ((hx.cov d hd).mp ⟨c, z, p⟩).1
      · exact ((hy.cov d hd).mp ⟨c, z, p⟩).1
    · intro h
      by_cases b : B d
      · obtain ⟨c, hc, p⟩ := (hx.cov d hd).mpr ⟨h, b⟩
        exact ⟨c, List.mem_append.mpr (.inl hc), p⟩
      · obtain ⟨c, hc, p⟩ := (hy.cov d hd).mpr ⟨h, b⟩
        exact ⟨c, List.mem_append.mpr (.inr hc), p⟩
theorem covC_sort {L : List Cd} {d : Cd} : covC (sortC L) d ↔ covC L d := ⟨fun ⟨c, hc, p⟩ => ⟨c, sortC_mem.mp hc, p⟩, fun ⟨c, hc, p⟩ => ⟨c, sortC_mem.mpr hc, p⟩⟩
theorem covC_all (d : Cd) : covC [[]] d := ⟨[], List.mem_singleton.mpr rfl, List.nil_prefix⟩
/-! ### points -/
theorem hasT_preN {p : Rat × Rat} (hp : inLand p) {n : Nat} {ds : List Nat} (h4 : ∀ d ∈ ds, d < 4) (hl : ds.length ≤ n) : pB ds (tlN p n) = hasT p ds := by
  have ht : (tlN p n).take ds.length = tlN p ds.length := by
    have := tlN_take hp ds.length (n - ds.length)
    rwa [show ds.length + (n - ds.length) = n by omega] at this
  have hs : spN (tlN p ds.length) = (colN p.1 ds.length, colN p.2 ds.length) := spN_cdN _ _ _ (colN_lt hp.1 _) (colN_lt hp.2 _)
  rw [Bool.eq_iff_iff, pB_iff, List.prefix_iff_eq_take, ht]
  unfold hasT
  rw [Bool.and_eq_true, decide_eq_true_eq, decide_eq_true_eq]
  constructor
  · intro e
    have : spN ds = (colN p.1 ds.length, colN p.2 ds.length) := by rw [← hs]; exact congrArg spN e
    rw [this]
    exact ⟨rfl, rfl⟩
  · rintro ⟨e1, e2⟩
    refine spN_inj ds.length ds _ rfl (cdN_len _ _ _) h4 (cdN_lt _ _ _) ?_
    rw [hs]
    exact Prod.ext e1.symm e2.symm
theorem tl_ptn (p : Rat × Rat) : Ptn (tlN p 9) := ⟨cdN_len _ _ _, cdN_lt _ _ _⟩
theorem any_hasT {p : Rat × Rat} (hp : inLand p) {L : List Cd} (hv : ∀ c ∈ L, Vd c) : L.any (hasT p) = hasB L (tlN p 9) := by
  unfold hasB
  rw [Bool.eq_iff_iff, List.any_eq_true, List.any_eq_true]
  exact exists_congr fun c => and_congr_right fun hc => by rw [hasT_preN hp (hv c hc).2 (hv c hc).1]
/-! ### the begins of drawn codes -/
def begU (L : List Cd) : List Cd := [] :: L.flatMap fun c => (List.range c.length).map fun j => c.take j
theorem begU_cl {L : List Cd} : ∀ u ∈ begU L, ∀ p, p <+: u → p ∈ begU L := by
  intro u hu p hp
  unfold begU at *
  rcases List.mem_cons.mp hu with rfl | hu
  · rw [List.prefix_nil.mp hp]; exact List.mem_cons_self
  obtain ⟨c, hc, hu⟩ := List.mem_flatMap.mp hu
  obtain ⟨j, hj, rfl⟩ := List.mem_map.mp hu
  have hj := List.mem_range.mp hj
  have l := hp.length_le
  rw [List.length_take] at l
  refine List.mem_cons_of_mem _ (List.mem_flatMap.mpr ⟨c, hc, List.mem_map.mpr ⟨p.length, List.mem_range.mpr (by omega), ?_⟩⟩)
  exact (List.prefix_iff_eq_take.mp (hp.trans (List.take_prefix j c))).symm
theorem filt_take (c : Cd) (k : Nat) : (((List.range c.length).map fun j => c.take j).filter fun u => decide (u.length = k)).length ≤ 1 := by
  have e : (((List.range c.length).map fun j => c.take j).filter fun u => decide (u.length = k)) = ((List.range c.length).filter fun j => decide (j = k)).map fun j => c.take j := by
    rw [List.filter_map]
    congr 1
    refine List.filter_congr fun j hj => ?_
    have := List.mem_range.mp hj
    show decide ((c.take j).length = k) = _
    rw [List.length_take, Nat.min_eq_left (by omega)]
  rw [e, List.length_map]
  have nd : ((List.range c.length).filter fun j => decide (j = k)).Nodup := (List.nodup_range).sublist List.filter_sublist
  have sub : ∀ x ∈ (List.range c.length).filter (fun j => decide (j = k)), x ∈ [k] := fun x hx => by
    have := of_decide_eq_true (List.mem_filter.mp hx).2
    rw [this]; exact List.mem_singleton.mpr rfl
  exact nodup_leC nd sub
theorem begU_few {L : List Cd} (k : Nat) : ((begU L).filter fun u => decide (u.length = k)).length ≤ L.length + 1 := by
  unfold begU
  have main : ((L.flatMap fun c => (List.range c.length).map fun j => c.take j).filter fun u => decide (u.length = k)).length ≤ L.length := by
    induction L with
    | nil => exact Nat.le_refl _
    | cons c L ih =>
      rw [List.flatMap_cons, List.filter_append, List.length_append, List.length_cons]
      have := filt_take c k
      omega
  rw [List.filter_cons]
  have main := main
  split
  · exact Nat.succ_le_succ main
  · exact Nat.le_succ_of_le main
theorem begU_len {L : List Cd} {n : Nat} (h : ∀ c ∈ L, c.length ≤ n) : (begU L).length ≤ 1 + n * L.length := by
  unfold begU
  rw [List.length_cons]
  have main : (L.flatMap fun c => (List.range c.length).map fun j => c.take j).length ≤ n * L.length := by
    induction L with
    | nil => exact Nat.le_refl _
    | cons c L ih =>
      rw [List.flatMap_cons, List.length_append, List.length_map, List.length_range, List.length_cons, Nat.mul_succ]
      have := ih fun x hx => h x (List.mem_cons_of_mem _ hx)
      have := h c List.mem_cons_self
      omega
  omega
theorem begU_bg {L : List Cd} : ∀ c ∈ L, c.dropLast ∈ begU L := by
  intro c hc
  unfold begU
  by_cases e : c = []
  · rw [e]; exact List.mem_cons_self
  · refine List.mem_cons_of_mem _ (List.mem_flatMap.mpr ⟨c, hc, List.mem_map.mpr ⟨c.length - 1, List.mem_range.mpr ?_, (List.dropLast_eq_take).symm⟩⟩)
    have := List.length_pos_iff.mpr e
    omega
theorem begU_us {L : List Cd} (hl : L.length ≤ 32) (h5 : ∀ c ∈ L, c.length ≤ 5) : Us (begU L) := ⟨begU_cl, fun k => by have := begU_few (L := L) k; omega, by have := begU_len h5; omega⟩
/-! ### drawn codes, none the begin of another one -/
def PwN (L : List Cd) : Prop := L.Pairwise fun a b => ¬ a <+: b ∧ ¬ b <+: a
def farC (c : Cd) (L : List Cd) : List Cd := L.filter fun x => !pB c x && !pB x c
theorem far_mem {c x : Cd} {L : List Cd} : x ∈ farC c L ↔ x ∈ L ∧ ¬ c <+: x ∧ ¬ x <+: c := by
  unfold farC
  rw [List.mem_filter, Bool.and_eq_true, Bool.not_eq_true', Bool.not_eq_true', ← Bool.not_eq_true, ← Bool.not_eq_true, pB_iff, pB_iff]
theorem far_len {c : Cd} {L : List Cd} : (farC c L).length ≤ L.length := List.length_filter_le _ _
theorem PwN.far {L : List Cd} (h : PwN L) (c : Cd) : PwN (farC c L) := List.Pairwise.sublist List.filter_sublist h
theorem PwN.add {L : List Cd} (h : PwN L) (c : Cd) : PwN (farC c L ++ [c]) := List.pairwise_append.mpr ⟨h.far c, List.pairwise_singleton _ _, fun x hx y hy => by
  rw [List.mem_singleton.mp hy]
  have := far_mem.mp hx
  exact ⟨this.2.2, this.2.1⟩⟩
theorem kids_far (b : Cd) : (kidsC.map fun s => b ++ [s]).Pairwise fun a c => ¬ a <+: c ∧ ¬ c <+: a := by
  refine List.pairwise_map.mpr ?_
  have pw : kidsC.Pairwise (· ≠ ·) := by decide
  refine pw.imp fun {s t} ne => ⟨fun p => ne ?_, fun p => ne ?_⟩
  · have := p.eq_of_length (by simp)
    simpa using this
  · have := p.eq_of_length (by simp)
    simpa using this.symm
theorem PwN.kids {L : List Cd} (h : PwN L) (b : Cd) : PwN (farC b L ++ kidsC.map fun s => b ++ [s]) := List.pairwise_append.mpr ⟨h.far b, kids_far b, fun x hx y hy => by
  obtain ⟨s, _, rfl⟩ := List.mem_map.mp hy
  obtain ⟨_, h1, h2⟩ := far_mem.mp hx
  refine ⟨fun p => ?_, fun p => h1 ((List.prefix_append b [s]).trans p)⟩
  rcases pre_snoc.mp p with e | e
  · exact h1 (by rw [e]; exact List.prefix_append b [s])
  · exact h2 e⟩
theorem PwN.nd {L : List Cd} (h : PwN L) : L.Nodup := h.imp fun {a b} z e => z.1 (by rw [e]; exact List.prefix_refl b)
theorem PwN.anti : ∀ {L : List Cd}, PwN L → Anti L
  | [], _ => fun a h => by cases h
  | x :: L, h => fun a ha b hb p => by
    obtain ⟨h1, h2⟩ := List.pairwise_cons.mp h
    rcases List.mem_cons.mp ha with e | ha <;> rcases List.mem_cons.mp hb with e' | hb
    · rw [e, e']
    · rw [e] at p; exact absurd p (h1 b hb).1
    · rw [e'] at p; exact absurd p (h1 a ha).2
    · exact PwN.anti h2 a ha b hb p
theorem addAll_app : ∀ (J acc : List Cd), (acc ++ J).Nodup → addAll acc J = acc ++ J
  | [], acc, _ => by rw [List.append_nil]; rfl
  | c :: J, acc, nd => by
    have hn : c ∉ acc := fun h => (List.nodup_append.mp nd).2.2 c h c List.mem_cons_self rfl
    show addAll (addC acc c) J = _
    rw [show addC acc c = acc ++ [c] from if_neg hn, addAll_app J (acc ++ [c]) (by rw [List.append_assoc]; exact nd), List.append_assoc]
    rfl
theorem ded_nd {L : List Cd} (nd : L.Nodup) : dedC L = L := addAll_app L [] nd
theorem sz3 {n : Nat} (h : n ≤ 1000000) : n ≤ sizeLine := Nat.le_trans h (by decide)
/-! ### compared -/
theorem okD_cvs {L : List Cd} (hv : ∀ c ∈ L, Vd c) : okD (.lst (cvs L)) = true := by
  rw [strs_cvs]
  exact okD_lstr fun s hs => by
    obtain ⟨x, hx, rfl⟩ := List.mem_map.mp hs
    exact (codeN_asc (codeN_vd (hv x hx))).1
theorem okT_cvs {L : List Cd} (hv : ∀ c ∈ L, Vd c) (hl : L.length ≤ 1000) : okD (.tup (cvs L)) = true := by
  have h := sm_cvs hv hl
  rw [strs_cvs] at h ⊢
  exact okD_strs h
theorem isD_of {p : Pv} (h : okD p = true) : isD p = true := by
  unfold okD at h
  exact (Bool.and_eq_true_iff.mp h).1
theorem eqvL_self {L : List Cd} (hv : ∀ c ∈ L, Vd c) : PyData.eqv (toD (.lst (cvs L))) (toD (.lst (cvs L))) = true := eqv_refl _ (isD_of (okD_cvs hv))
theorem eqvT_self {L : List Cd} (hv : ∀ c ∈ L, Vd c) (hl : L.length ≤ 1000) : PyData.eqv (toD (.tup (cvs L))) (toD (.tup (cvs L))) = true := eqv_refl _ (isD_of (okT_cvs hv hl))
theorem memD_cvs (c : Cd) : ∀ L : List Cd, memD (cdK c) (cvs L) = decide (c ∈ L)
  | [] => rfl
  | x :: L => by
    show ((cdS x == cdS c) || memD (cdK c) (cvs L)) = _
    rw [memD_cvs c L, Bool.eq_iff_iff]
    simp only [Bool.or_eq_true, beq_iff_eq, decide_eq_true_eq, List.mem_cons]
    exact ⟨fun h => h.imp (fun e => (cd_inj e).symm) id, fun h => h.imp (fun e => by rw [e]) id⟩
theorem okD_cd {c : Cd} (h : Vd c) : okD (cdK c) = true := okD_of rfl (show asc (cdS c) = true from (codeN_asc (codeN_vd h)).1) (by show (0 : Nat) ≤ 60; decide)
end PL

/-! t[::2], t a tuple. -/
namespace PL
open PySem PySem.Spec PyProof.Rows L2
open HT (slicePart_)
def evens {α : Type} : List α → List α
  | [] => []
  | [x] => [x]
  | x :: _ :: l => x :: evens l
theorem evens_pick {α : Type} : ∀ l : List α, (List.range ((l.length + 1) / 2)).filterMap (fun m => l[2 * m]?) = evens l
  | [] => by simp [evens]
  | [x] => by
    rw [show ([x].length + 1) / 2 = 1 by simp]
    simp [evens, List.range_succ]
  | x :: y :: l => by
    have e : ((x :: y :: l).length + 1) / 2 = (l.length + 1) / 2 + 1 := by rw [List.length_cons, List.length_cons]; omega
    rw [e, List.range_succ_eq_map, List.filterMap_cons, List.filterMap_map]
    show x :: _ = x :: evens l
    rw [← evens_pick l]
    congr 1
theorem evens_len {α : Type} : ∀ l : List α, (evens l).length ≤ l.length
  | [] => Nat.le_refl _
  | [x] => Nat.le_refl _
  | x :: y :: l => by
    have := evens_len l
    show (evens l).length + 1 ≤ l.length + 1 + 1
    omega
theorem evens_sub {α : Type} : ∀ l : List α, (evens l).Sublist l
  | [] => .slnil
  | [x] => List.Sublist.refl _
  | x :: y :: l => ((evens_sub l).cons y).cons₂ x
theorem evens_map {α β : Type} (f : α → β) : ∀ l : List α, evens (l.map f) = (evens l).map f
  | [] => rfl
  | [x] => rfl
  | x :: y :: l => by
    show f x :: evens (l.map f) = f x :: (evens l).map f
    rw [evens_map f l]
theorem vals_ev : ∀ {xs : List V} {its : List Value}, Vals xs its → Vals (evens xs) (evens its)
  | [], _, h => by cases h; exact .nil
  | [x], _, h => by
    cases h with
    | cons r t => cases t; exact .cons r .nil
  | x :: y :: l, _, h => by
    cases h with
    | cons r t =>
      cases t with
      | cons r2 t => exact .cons r (vals_ev t)
theorem reps_ev {K : PySem.W.Frag} {H : Hp} {S : Sto} : ∀ {ps : List Pv} {vs : List V}, RepVs K H S ps vs → RepVs K H S (evens ps) (evens vs)
  | [], _, h => by cases (show _ = [] from h); exact rfl
  | [p], _, ⟨v, r, e, h1, h2⟩ => by
    cases (show r = [] from h2)
    subst e
    exact ⟨v, [], rfl, h1, rfl⟩
  | p :: q :: ps, _, ⟨v, r, e, h1, h2⟩ => by
    obtain ⟨v2, r2, e2, h3, h4⟩ := h2
    subst e e2
    exact ⟨v, evens r2, rfl, h1, reps_ev h4⟩
namespace EvT
section
variable {prog : Program} {w : World} {A : Around} {E : Value → Shared → Prop} {s : Shared}
theorem adjust_ev (n : Nat) : Builtin.Slice.sliceAdjust none none 2 (n : Int) = (0, (n : Int)) := by
  unfold Builtin.Slice.sliceAdjust
  simp
theorem places_ev (n : Nat) : Builtin.Slice.slicePlaces 0 (n : Int) 2 = (n + 1) / 2 := by
  unfold Builtin.Slice.slicePlaces
  rw [if_pos (by decide)]
  split <;> omega
theorem applied_ev {sl : Addr} {vl vu vk : Value} {n : Nat} {Q : Int × Int × Nat → Shared → Prop} (hs : s.heap.IsSliceOf sl vl vu vk) (pl : IsPart vl none) (pu : IsPart vu none) (pk : IsPart vk (some 2))
    (h : Q (0, 2, (n + 1) / 2) s) : wpAny (model prog w) A (Builtin.Slice.sliceApplied (.ref sl) (pure (n : Int))) Q E s := by
  obtain ⟨os, hos, hcs, hds⟩ := id hs
  unfold Builtin.Slice.sliceApplied Builtin.Slice.sliceFields
  refine wpAny_bind (wpAny_bind (wpAny_field hos hds (x := vl) rfl (wpAny_bind (wpAny_field hos hds (x := vu) rfl (wpAny_bind (wpAny_field hos hds (x := vk) rfl (wpAny_pure ?_)))))))
  refine wpAny_bind (slicePart_ pk ?_)
  show wpAny _ _ (if ((2 : Int) == 0) = true then _ else _) _ _ s
  rw [if_neg (by decide)]
  refine wpAny_bind (slicePart_ pl (wpAny_bind (slicePart_ pu (wpAny_bind (wpAny_pure ?_)))))
  show wpAny _ _ (match Builtin.Slice.sliceAdjust none none 2 (n : Int) with | (lo, hi) => pure (lo, (2 : Int), Builtin.Slice.slicePlaces lo hi 2)) _ _ s
  rw [adjust_ev n]
  show wpAny _ _ (pure ((0 : Int), (2 : Int), Builtin.Slice.slicePlaces 0 (n : Int) 2)) _ _ s
  rw [places_ev]
  exact wpAny_pure h
theorem pick_ev (xs : Array Value) : ((List.range ((xs.size + 1) / 2)).filterMap fun (m : Nat) => xs[((0 : Int) + (m : Int) * 2).toNat]?).toArray = (evens xs.toList).toArray := by
  rw [← evens_pick, Array.length_toList]
  have e : (fun (m : Nat) => xs[((0 : Int) + (m : Int) * 2).toNat]?) = fun m => xs.toList[2 * m]? := by
    funext m
    rw [show ((0 : Int) + (m : Int) * 2).toNat = 2 * m by omega]
    simp
  rw [e]
theorem getItem_ev {t sl : Addr} {items : Array Value} {vl vu vk : Value} {Q : Value → Shared → Prop} (ht : IsTup s.heap t items) (hs : s.heap.IsSliceOf sl vl vu vk) (pl : IsPart vl none) (pu : IsPart vu none) (pk : IsPart vk (some 2))
    (h : Q (.ref s.heap.objs.size) { s with heap := s.heap.push { cls := .type "tuple", data := .seq (evens items.toList).toArray } })
    (hsz : items.size ≤ sizeLine) : wpAny (model prog w) A (getItem (.ref t) (.ref sl)) Q E s := by
  have htake : sizeOk (.seq (evens items.toList).toArray) := by
    show (evens items.toList).toArray.size ≤ sizeLine
    rw [List.size_toArray]
    exact Nat.le_trans (evens_len items.toList) (by rw [Array.length_toList]; exact hsz)
  obtain ⟨os, hos, hcs, hds⟩ := id hs
  have hTs : s.TypeIs (.ref sl) "slice" := ⟨os, hos, hcs⟩
  unfold getItem
  try with_reducible refine wpAny_holding ?_
  first | refine wpAny_bind (wpAny_pure ?_) | skip
  refine wpAny_bind (wpAny_sequenceKey ht.typeIs (by decide) ?_)
  refine wpAny_bind (wpAny_callSpecial?_slot (name := Str.ofString "__getitem__") ht.typeIs PyProof.Rows.slot_tuple_getitem
    (wpAny_call_entry PyProof.Rows.slot_tuple_getitem ht.typeIs entry_tuple_getitem ?_ (args_tuple_getitem _ _)))
  show wpAny _ _ (Builtin.Tuple.tupleItemsOf (.ref t) >>= _) _ _ s
  refine wpAny_bind (tupleItemsOf_ ht ?_)
  refine wpAny_bind (wpAny_typeOf hTs ?_)
  rw [if_pos (by decide)]
  refine wpAny_bind (applied_ev hs pl pu pk ?_)
  have hno : ¬ (((0 : Int) == 0 && (2 : Int) == 1 && (items.size + 1) / 2 == items.size) = true) := by
    rw [show ((2 : Int) == 1) = false by decide, Bool.and_false, Bool.false_and]
    exact Bool.false_ne_true
  show wpAny _ _ (if ((0 : Int) == 0 && (2 : Int) == 1 && (items.size + 1) / 2 == items.size) = true then _ else _) _ _ s
  rw [if_neg hno, pick_ev]
  first
    | exact wpAny_bind (m := Builtin.Tuple.tupleExact _) (wpAny_newObj_type (wpAny_pure ⟨_, rfl, wpAny_pure h⟩) htake)
    | exact wpAny_bind (m := Builtin.Tuple.tupleExact _) (wpAny_newObj_type (wpAny_bind (wpAny_pure (wpAny_pure ⟨_, rfl, wpAny_pure h⟩))) htake)
    | exact wpAny_bind (wpAny_bind (m := Builtin.Tuple.tupleExact _) (wpAny_newObj_type (wpAny_pure (wpAny_pure ⟨_, rfl, wpAny_pure h⟩)) htake))
    | exact wpAny_bind (wpAny_bind (m := Builtin.Tuple.tupleExact _) (wpAny_newObj_type (wpAny_pure ⟨_, rfl, wpAny_pure h⟩) htake))
end
section
variable {X : Cx}
def tEvA (K : PySem.W.Frag) (te : TE) : TE := fun σ H Q => te σ H fun x H1 => ∃ a xs, x = .ref a ∧ SqT K H1 a xs ∧ ∀ p, H1 p = none → Q (.ref p) (upd H1 p (.tup (evens xs)))
theorem pe_evA {e : Expr} {te : TE} {k : Nat} {p1 p3 pos : Pos} (he : PE X e te) : PE X (.Subscript e (.Slice none none (some (.Constant (.int 2) k p1)) p3) pos) (tEvA X.K te) := by
  refine ⟨fun pins s σ H Q I h => ?_⟩
  refine Subscript_ (thn (he.run pins s σ H _ I h) fun v s1 ⟨x, H1, I1, r1, q1⟩ => ?_)
  have hst : PO X (some (.Constant (.int 2) k p1)) (tPart (tC (.int 2))) := po_some pe_int
  refine wpAny_Slice (thn (po_none.run pins s1 σ H1 (fun o H2 => o = none ∧ H2 = H1) I1 ⟨rfl, rfl⟩) fun vl s2 ⟨l, H2, I2, pl, el, e2⟩ => ?_)
  subst el e2
  refine thn (po_none.run pins s2 σ H2 (fun o H3 => o = none ∧ H3 = H2) I2 ⟨rfl, rfl⟩) fun vu s3 ⟨u, H3, I3, pu, eu, e3⟩ => ?_
  subst eu e3
  refine thn (hst.run pins s3 σ H3 (fun o H4 => o = some 2 ∧ H4 = H3) I3 ⟨2, rfl, rfl, rfl⟩) fun vs s4 ⟨o, H4, I4, ps, eo, e4⟩ => ?_
  subst eo e4
  have I5 : Inv X pins σ H4 { s4 with heap := s4.heap.push { cls := .type "slice", data := .fields #[vl, vu, vs] } } := I4.kept (t' := s4.toks) fun b ob q => Heap.get?_push_of_some _ q
  obtain ⟨a, xs, ex, hx, q⟩ := q1
  subst ex
  cases r1
  obtain ⟨its, r, ht, hz⟩ := I5.tuple hx
  have hlen := r.length
  show wpAny (model X.prog X.w) X.A (subscriptTail e (.Slice none none (some (.Constant (.int 2) k p1)) p3) (.ref a) (.ref s4.heap.objs.size)) (EP X pins σ Q) X.xe { s4 with heap := s4.heap.push { cls := .type "slice", data := .fields #[vl, vu, vs] } }
  refine tail_any (ops := [.ref a, .ref s4.heap.objs.size]) ht.typeIs (PyProof.Rows.slot_tuple_getitem.lookup) ?_ (by with_unfolding_all rfl)
  refine getItem_ev ht (Heap.IsSliceOf.new _ vl vu vs) pl pu ps ?_ (by rw [List.size_toArray]; omega)
  refine ⟨.ref _, _, I5.laid (t' := s4.toks) (o := .tup (evens xs)) (fun b ob q => Heap.get?_push_of_some _ q) (Nat.le_refl _) ?_, rfl, q _ (I5.hok.fresh (Nat.le_refl _))⟩
  exact ⟨Nat.le_trans (evens_len xs) hz, _, vals_ev r, _, Heap.get?_push_size _ rfl, rfl, _, rfl⟩
end
end EvT
def oEv (x : Pv) (S : Sto) (Q : QV) : Prop := match x with
  | .tup xs => Q (.tup (evens xs)) S
  | _ => False
section
variable {X : Cx} {S0 : Sto} {H0 : Hp} {a : Expr} {fa : PF} {pos : Pos}
theorem pv_ev {k : Nat} {p1 p3 : Pos} (ha : PV X S0 H0 a fa) : PV X S0 H0 (.Subscript a (.Slice none none (some (.Constant (.int 2) k p1)) p3) pos) (f1 oEv fa) := by
  have m : ∀ x S Q Q', (∀ p S', Q p S' → Q' p S') → oEv x S Q → oEv x S Q' := fun x S Q Q' h q => by
    unfold oEv at q ⊢
    split at q
    · exact h _ _ q
    · exact q
  refine ⟨f1_mono m ha, PE.imp (EvT.pe_evA ha.pe) fun σ H Q ⟨ρ, S, re, rs, ex, q⟩ => ?_⟩
  refine ⟨ρ, S, re, rs, ex, ha.mono _ _ _ _ (fun x S1 q v H1 rv rs1 ex1 => ?_) q⟩
  unfold oEv at q
  split at q
  · obtain ⟨t, vs, e, hq, r⟩ := rv
    refine ⟨t, vs, e, hq, fun p np => ?_⟩
    obtain ⟨a1, a2, a3⟩ := newT_k rs1 np (reps_ev r)
    exact q _ _ a1 a2 (ex1.trans a3)
  · exact q.elim
end
end PL

/-! The finest codes, and the fewest, as they are gone through. -/
namespace PL
open PySem PySem.Spec PyProof.Rows L2 PLS
/-- a code of n figures -/
def Fn (n : Nat) (d : Cd) : Prop := d.length = n ∧ ∀ x ∈ d, x < 4
/-- of n figures at most -/
def Up (n : Nat) (c : Cd) : Prop := c.length ≤ n ∧ ∀ x ∈ c, x < 4
theorem up_kid {n : Nat} {c : Cd} {s : Nat} (h : Up n c) (hl : c.length < n) (hs : s < 4) : Up n (c ++ [s]) := ⟨by rw [List.length_append, List.length_singleton]; omega, fun x hx => by
  rcases List.mem_append.mp hx with z | z
  · exact h.2 x z
  · rw [List.mem_singleton.mp z]; exact hs⟩
/-- the codes of k figures more -/
def extC : Nat → Cd → List Cd
  | 0, c => [c]
  | k + 1, c => kidsC.flatMap fun s => extC k (c ++ [s])
theorem ext_mem : ∀ (k : Nat) (c : Cd), (∀ x ∈ c, x < 4) → ∀ d, d ∈ extC k c ↔ (c <+: d ∧ d.length = c.length + k ∧ ∀ x ∈ d, x < 4)
  | 0, c, hc, d => by
    unfold extC
    rw [List.mem_singleton]
    constructor
    · rintro rfl; exact ⟨List.prefix_refl _, rfl, hc⟩
    · rintro ⟨p, l, _⟩; exact (p.eq_of_length l.symm).symm
  | k + 1, c, hc, d => by
    unfold extC
    rw [List.mem_flatMap]
    have hk : ∀ s ∈ kidsC, ∀ x ∈ c ++ [s], x < 4 := fun s hs x hx => by
      rcases List.mem_append.mp hx with z | z
      · exact hc x z
      · rw [List.mem_singleton.mp z]; exact kid_lt hs
    constructor
    · rintro ⟨s, hs, h⟩
      obtain ⟨p, l, a⟩ := (ext_mem k (c ++ [s]) (hk s hs) d).mp h
      rw [List.length_append, List.length_singleton] at l
      exact ⟨(List.prefix_append c [s]).trans p, by omega, a⟩
    · rintro ⟨p, l, a⟩
      obtain ⟨r, rfl⟩ := p
      cases r with
      | nil => rw [List.append_nil] at l; omega
      | cons s r =>
        have hs : s ∈ kidsC := lt_kid (a s (by simp))
        refine ⟨s, hs, (ext_mem k (c ++ [s]) (hk s hs) _).mpr ⟨⟨r, by simp⟩, ?_, a⟩⟩
        simp only [List.length_append, List.length_cons, List.length_nil] at l ⊢
        omega
theorem ext_len : ∀ (k : Nat) (c : Cd), (extC k c).length = 4 ^ k
  | 0, c => rfl
  | k + 1, c => by
    show ((extC k (c ++ [0])) ++ ((extC k (c ++ [1])) ++ ((extC k (c ++ [2])) ++ ((extC k (c ++ [3])) ++ [])))).length = _
    simp only [List.length_append, ext_len k, List.length_nil]
    omega
theorem ext_nd : ∀ (k : Nat) (c : Cd), (∀ x ∈ c, x < 4) → (extC k c).Nodup
  | 0, c, _ => by unfold extC; simp
  | k + 1, c, hc => by
    have hk : ∀ s ∈ kidsC, ∀ x ∈ c ++ [s], x < 4 := fun s hs x hx => by
      rcases List.mem_append.mp hx with z | z
      · exact hc x z
      · rw [List.mem_singleton.mp z]; exact kid_lt hs
    unfold extC
    refine List.pairwise_flatMap.mpr ⟨fun s hs => ext_nd k _ (hk s hs), ?_⟩
    have pw : kidsC.Pairwise (· ≠ ·) := by decide
    refine List.Pairwise.imp_of_mem (fun {s t} hs ht ne x hx y hy e => ne ?_) pw
    subst e
    have p1 := ((ext_mem k _ (hk s hs) x).mp hx).1
    have p2 := ((ext_mem k _ (hk t ht) x).mp hy).1
    rcases pre_cmp p1 p2 with p | p
    · have := p.eq_of_length (by simp)
      simpa using this
    · have := p.eq_of_length (by simp)
      simpa using this.symm
/-- all of a code's finest are there -/
def Full (n : Nat) (F : List Cd) (c : Cd) : Prop := ∀ d, Fn n d → c <+: d → d ∈ F
theorem full_iff {n : Nat} {F : List Cd} (nd : F.Nodup) (hF : ∀ d ∈ F, Fn n d) {c : Cd} (hc : Up n c) : (F.filter (pB c)).length = 4 ^ (n - c.length) ↔ Full n F c := by
  have hm := ext_mem (n - c.length) c hc.2
  have hl := ext_len (n - c.length) c
  have hn := ext_nd (n - c.length) c hc.2
  have gn : (F.filter (pB c)).Nodup := List.Pairwise.sublist List.filter_sublist nd
  have sub : ∀ d ∈ F.filter (pB c), d ∈ extC (n - c.length) c := fun d hd => by
    obtain ⟨h1, h2⟩ := List.mem_filter.mp hd
    have := hF d h1
    refine (hm d).mpr ⟨pB_iff.mp h2, ?_, this.2⟩
    rw [this.1]; have := hc.1; omega
  constructor
  · intro e d hd p
    by_cases h : d ∈ F
    · exact h
    exfalso
    have hd2 : d ∈ extC (n - c.length) c := (hm d).mpr ⟨p, by rw [hd.1]; have := hc.1; omega, hd.2⟩
    have le := nodup_leC (D := (extC (n - c.length) c).erase d) gn fun x hx => (List.mem_erase_of_ne (fun e => h (by rw [← e]; exact (List.mem_filter.mp hx).1))).mpr (sub x hx)
    rw [List.length_erase_of_mem hd2, hl, e] at le
    have : 0 < 4 ^ (n - c.length) := Nat.pow_pos (by decide)
    omega
  · intro h
    have le1 := nodup_leC gn sub
    have le2 := nodup_leC (D := F.filter (pB c)) hn fun x hx => by
      obtain ⟨p, l, a⟩ := (hm x).mp hx
      exact List.mem_filter.mpr ⟨h x ⟨by rw [l]; have := hc.1; omega, a⟩ p, pB_iff.mpr p⟩
    omega
/-! ### the finest -/
def wC (n : Nat) : List Cd → Nat
  | [] => 0
  | c :: L => (4 ^ (n + 1 - c.length) - 1) / 3 + wC n L
def w1 (k : Nat) : Nat := (4 ^ (k + 1) - 1) / 3
theorem w1_zero : w1 0 = 1 := by decide
theorem w1_succ (k : Nat) : w1 (k + 1) = 1 + 4 * w1 k := by
  unfold w1
  have h : ∀ j : Nat, 4 ^ j % 3 = 1 := fun j => by
    induction j with
    | zero => rfl
    | succ j ih => rw [Nat.pow_succ]; omega
  have h1 := h (k + 1)
  have e : 4 ^ (k + 1 + 1) = 4 * 4 ^ (k + 1) := by rw [Nat.pow_succ 4 (k + 1)]; omega
  rw [e]
  generalize 4 ^ (k + 1) = z at *
  omega
def wS (n : Nat) (L : List Cd) : Nat := (L.map fun c => w1 (n - c.length)).sum
theorem ws_app (n : Nat) (a b : List Cd) : wS n (a ++ b) = wS n a + wS n b := by unfold wS; rw [List.map_append, List.sum_append]
theorem ws_one (n : Nat) (c : Cd) : wS n [c] = w1 (n - c.length) := by unfold wS; simp
theorem w1_pos (k : Nat) : 1 ≤ w1 k := by
  cases k with
  | zero => decide
  | succ k => rw [w1_succ]; omega
theorem ws_len (n : Nat) : ∀ L : List Cd, L.length ≤ wS n L
  | [] => Nat.zero_le _
  | c :: L => by
    have h1 := ws_len n L
    have h2 := w1_pos (n - c.length)
    unfold wS at *
    rw [List.map_cons, List.sum_cons, List.length_cons]
    omega
abbrev kidL (c : Cd) : List Cd := kidsC.map fun s => c ++ [s]
theorem ws_kids {n : Nat} {c : Cd} (h : c.length < n) : wS n (kidL c) + 1 = wS n [c] := by
  rw [ws_one]
  obtain ⟨k, hk⟩ : ∃ k, n - c.length = k + 1 := ⟨n - c.length - 1, by omega⟩
  have e : ∀ s : Nat, n - (c ++ [s]).length = k := fun s => by rw [List.length_append, List.length_singleton]; omega
  rw [hk, w1_succ]
  show (List.map _ (kidsC.map _)).sum + 1 = _
  rw [List.map_map]
  show w1 (n - (c ++ [0]).length) + (w1 (n - (c ++ [1]).length) + (w1 (n - (c ++ [2]).length) + (w1 (n - (c ++ [3]).length) + 0))) + 1 = _
  simp only [e]
  omega
structure FineI (n : Nat) (L Lf F : List Cd) : Prop where
  nd : F.Nodup
  up : ∀ c ∈ Lf, Up n c
  sub : ∀ d ∈ F, Fn n d ∧ covC L d
  lf : ∀ c ∈ Lf, ∀ d, Fn n d → c <+: d → covC L d
  all : ∀ d, Fn n d → covC L d → d ∈ F ∨ covC Lf d
structure FineOk (n : Nat) (L F : List Cd) : Prop where
  nd : F.Nodup
  mem : ∀ d, d ∈ F ↔ Fn n d ∧ covC L d
theorem FineI.begin {n : Nat} {L : List Cd} (h : ∀ c ∈ L, Up n c) : FineI n L L [] := ⟨List.nodup_nil, h, (fun d hd => by cases hd), fun c hc d _ p => ⟨c, hc, p⟩, fun d _ h => .inr h⟩
theorem FineI.fin {n : Nat} {L F : List Cd} (h : FineI n L [] F) : FineOk n L F := ⟨h.nd, fun d => ⟨h.sub d, fun z => (h.all d z.1 z.2).elim id fun ⟨c, hc, _⟩ => by cases hc⟩⟩
theorem FineI.put {n : Nat} {L Lf F : List Cd} {c : Cd} (h : FineI n L (Lf ++ [c]) F) (hl : c.length = n) : FineI n L Lf (addC F c) := by
  have hu := h.up c (by simp)
  refine ⟨addC_nd h.nd, fun x hx => h.up x (List.mem_append.mpr (.inl hx)), fun d hd => ?_, fun x hx => h.lf x (List.mem_append.mpr (.inl hx)), fun d hd hc => ?_⟩
  · rcases addC_mem.mp hd with z | rfl
    · exact h.sub d z
    · exact ⟨⟨hl, hu.2⟩, h.lf d (by simp) d ⟨hl, hu.2⟩ (List.prefix_refl d)⟩
  · rcases h.all d hd hc with z | ⟨x, hx, p⟩
    · exact .inl (addC_mem.mpr (.inl z))
    · rcases List.mem_append.mp hx with z | z
      · exact .inr ⟨x, z, p⟩
      · rw [List.mem_singleton.mp z] at p
        exact .inl (addC_mem.mpr (.inr (p.eq_of_length (by rw [hl, hd.1])).symm))
theorem pre_kid {n : Nat} {c d : Cd} (hd : Fn n d) (p : c <+: d) (hl : c.length < n) : ∃ s, s < 4 ∧ c ++ [s] <+: d := by
  obtain ⟨r, rfl⟩ := p
  cases r with
  | nil => have := hd.1; rw [List.append_nil] at this; omega
  | cons s r => exact ⟨s, hd.2 s (by simp), ⟨r, by simp⟩⟩
theorem FineI.kids {n : Nat} {L Lf F : List Cd} {c : Cd} (h : FineI n L (Lf ++ [c]) F) (hl : c.length < n) : FineI n L (Lf ++ kidL c) F := by
  have hu := h.up c (by simp)
  refine ⟨h.nd, fun x hx => ?_, h.sub, fun x hx d hd p => ?_, fun d hd hc => ?_⟩
  · rcases List.mem_append.mp hx with z | z
    · exact h.up x (List.mem_append.mpr (.inl z))
    · obtain ⟨s, hs, rfl⟩ := List.mem_map.mp z
      exact up_kid hu hl (kid_lt hs)
  · rcases List.mem_append.mp hx with z | z
    · exact h.lf x (List.mem_append.mpr (.inl z)) d hd p
    · obtain ⟨s, hs, rfl⟩ := List.mem_map.mp z
      exact h.lf c (by simp) d hd ((List.prefix_append c [s]).trans p)
  · rcases h.all d hd hc with z | ⟨x, hx, p⟩
    · exact .inl z
    · rcases List.mem_append.mp hx with z | z
      · exact .inr ⟨x, List.mem_append.mpr (.inl z), p⟩
      · rw [List.mem_singleton.mp z] at p
        obtain ⟨s, hs, q⟩ := pre_kid hd p hl
        exact .inr ⟨c ++ [s], List.mem_append.mpr (.inr (List.mem_map.mpr ⟨s, lt_kid hs, rfl⟩)), q⟩
theorem fn_len {n : Nat} {F : List Cd} (nd : F.Nodup) (h : ∀ d ∈ F, Fn n d) : F.length ≤ 4 ^ n := by
  rw [← ext_len n []]
  exact nodup_leC nd fun d hd => (ext_mem n [] (fun x hx => by cases hx) d).mpr ⟨List.nil_prefix, by rw [(h d hd).1]; simp, (h d hd).2⟩
/-! ### the fewest -/
structure FewI (n : Nat) (F Lf Fd : List Cd) : Prop where
  up : ∀ c ∈ Lf ++ Fd, Up n c
  pw : PwN (Lf ++ Fd)
  cov : ∀ d ∈ F, covC Lf d ∨ covC Fd d
  full : ∀ c ∈ Fd, Full n F c
  par : ∀ c ∈ Lf ++ Fd, c ≠ [] → ¬ Full n F c.dropLast
theorem PwN.perm {a b : List Cd} (p : a.Perm b) (h : PwN a) : PwN b := (p.pairwise_iff (R := fun a b : Cd => ¬ a <+: b ∧ ¬ b <+: a) fun {x y} z => ⟨z.2, z.1⟩).mp h
theorem FewI.begin (n : Nat) (F : List Cd) : FewI n F [[]] [] := ⟨fun c hc => by
    rw [List.append_nil, List.mem_singleton] at hc
    rw [hc]; exact ⟨Nat.zero_le _, fun x hx => by cases hx⟩, by rw [List.append_nil]; exact List.pairwise_singleton _ _, fun d _ => .inl ⟨[], by simp, List.nil_prefix⟩, (fun c hc => by cases hc), fun c hc ne => absurd (by simpa using hc) ne⟩
theorem FewI.found {n : Nat} {F Lf Fd : List Cd} {c : Cd} (h : FewI n F (Lf ++ [c]) Fd) (hf : Full n F c) : FewI n F Lf (Fd ++ [c]) := by
  have pm : (Lf ++ [c] ++ Fd).Perm (Lf ++ (Fd ++ [c])) := by rw [List.append_assoc]; exact List.Perm.append_left _ List.perm_append_comm
  refine ⟨fun x hx => h.up x (pm.mem_iff.mpr hx), h.pw.perm pm, fun d hd => ?_, fun x hx => ?_, fun x hx => h.par x (pm.mem_iff.mpr hx)⟩
  · rcases h.cov d hd with ⟨x, hx, p⟩ | ⟨x, hx, p⟩
    · rcases List.mem_append.mp hx with z | z
      · exact .inl ⟨x, z, p⟩
      · exact .inr ⟨x, List.mem_append.mpr (.inr z), p⟩
    · exact .inr ⟨x, List.mem_append.mpr (.inl hx), p⟩
  · rcases List.mem_append.mp hx with z | z
    · exact h.full x z
    · rw [List.mem_singleton.mp z]; exact hf
theorem FewI.drop {n : Nat} {F Lf Fd : List Cd} {c : Cd} (h : FewI n F (Lf ++ [c]) Fd) (hn : ∀ d ∈ F, ¬ c <+: d) : FewI n F Lf Fd := by
  have hs : ∀ x, x ∈ Lf ++ Fd → x ∈ Lf ++ [c] ++ Fd := fun x hx => by
    rcases List.mem_append.mp hx with z | z
    · simp [z]
    · simp [z]
  refine ⟨fun x hx => h.up x (hs x hx), List.Pairwise.sublist ?_ h.pw, fun d hd => ?_, h.full, fun x hx => h.par x (hs x hx)⟩
  · exact List.Sublist.append_right (List.sublist_append_left _ _) _
  · rcases h.cov d hd with ⟨x, hx, p⟩ | z
    · rcases List.mem_append.mp hx with z | z
      · exact .inl ⟨x, z, p⟩
      · rw [List.mem_singleton.mp z] at p
        exact absurd p (hn d hd)
    · exact .inr z
theorem FewI.kids {n : Nat} {F Lf Fd : List Cd} {c : Cd} (h : FewI n F (Lf ++ [c]) Fd) (hF : ∀ d ∈ F, Fn n d) (hl : c.length < n) (hf : ¬ Full n F c) : FewI n F (Lf ++ kidL c) Fd := by
  have hu := h.up c (by simp)
  have pm : (Lf ++ [c] ++ Fd).Perm (Lf ++ Fd ++ [c]) := by rw [List.append_assoc, List.append_assoc]; exact List.Perm.append_left _ List.perm_append_comm
  have p1 := h.pw.perm pm
  have efar : farC c (Lf ++ Fd) = Lf ++ Fd := List.filter_eq_self.mpr fun x hx => by
    have z := (List.pairwise_append.mp p1).2.2 x hx c (by simp)
    rw [Bool.and_eq_true, Bool.not_eq_true', Bool.not_eq_true', ← Bool.not_eq_true, ← Bool.not_eq_true, pB_iff, pB_iff]
    exact ⟨z.2, z.1⟩
  have p2 : PwN (Lf ++ Fd ++ kidL c) := by
    have := PwN.kids (L := Lf ++ Fd) (List.pairwise_append.mp p1).1 c
    rwa [efar] at this
  have pm2 : (Lf ++ Fd ++ kidL c).Perm (Lf ++ kidL c ++ Fd) := by rw [List.append_assoc, List.append_assoc]; exact List.Perm.append_left _ List.perm_append_comm
  have hs : ∀ x, x ∈ Lf ++ kidL c ++ Fd → x ∈ Lf ++ [c] ++ Fd ∨ ∃ s, s < 4 ∧ x = c ++ [s] := fun x hx => by
    rcases List.mem_append.mp hx with z | z
    · rcases List.mem_append.mp z with z | z
      · exact .inl (by simp [z])
      · obtain ⟨s, hs, rfl⟩ := List.mem_map.mp z
        exact .inr ⟨s, kid_lt hs, rfl⟩
    · exact .inl (by simp [z])
  refine ⟨fun x hx => ?_, p2.perm pm2, fun d hd => ?_, h.full, fun x hx => ?_⟩
  · rcases hs x hx with z | ⟨s, h4, rfl⟩
    · exact h.up x z
    · exact up_kid hu hl h4
  · rcases h.cov d hd with ⟨x, hx, p⟩ | z
    · rcases List.mem_append.mp hx with z | z
      · exact .inl ⟨x, List.mem_append.mpr (.inl z), p⟩
      · rw [List.mem_singleton.mp z] at p
        obtain ⟨s, h4, q⟩ := pre_kid (hF d hd) p hl
        exact .inl ⟨c ++ [s], List.mem_append.mpr (.inr (List.mem_map.mpr ⟨s, lt_kid h4, rfl⟩)), q⟩
    · exact .inr z
  · rcases hs x hx with z | ⟨s, h4, rfl⟩
    · exact h.par x z
    · intro _
      rw [List.dropLast_concat]
      exact hf
theorem FewI.isM {n : Nat} {F Fd : List Cd} (h : FewI n F [] Fd) (hF : ∀ d ∈ F, Fn n d) (n9 : n ≤ 9) : IsM (fun d => d.take n ∈ F) (sortC Fd) := by
  have hu : ∀ c ∈ Fd, Up n c := fun c hc => h.up c (by simpa using hc)
  have hp : PwN Fd := by have := h.pw; rwa [List.nil_append] at this
  refine ⟨fun c hc => ?_, sortC_nd hp.nd, fun a ha b hb => hp.anti a (sortC_mem.mp ha) b (sortC_mem.mp hb), fun d hd => ?_, fun b q => ?_, sortC_pw Fd⟩
  · have := hu c (sortC_mem.mp hc)
    exact ⟨Nat.le_trans this.1 n9, this.2⟩
  · have hfn : Fn n (d.take n) := ⟨by rw [List.length_take, hd.1]; omega, fun x hx => hd.2 x (List.mem_of_mem_take hx)⟩
    rw [covC_sort]
    constructor
    · rintro ⟨c, hc, p⟩
      refine h.full c hc _ hfn ?_
      rw [List.prefix_take_iff]
      exact ⟨p, (hu c hc).1⟩
    · intro z
      rcases h.cov _ z with ⟨c, hc, _⟩ | ⟨c, hc, p⟩
      · cases hc
      · exact ⟨c, hc, p.trans (List.take_prefix n d)⟩
  · have q : ∀ s, s < 4 → b ++ [s] ∈ Fd := fun s hs => sortC_mem.mp (q s hs)
    have hb := (hu _ (q 0 (by decide))).1
    rw [List.length_append, List.length_singleton] at hb
    refine h.par (b ++ [0]) (by simpa using q 0 (by decide)) (by simp) ?_
    rw [List.dropLast_concat]
    intro d hd p
    obtain ⟨s, hs, p2⟩ := pre_kid hd p (by omega)
    exact h.full _ (q s hs) d hd p2
theorem take_cov {n : Nat} {L : List Cd} (h : ∀ c ∈ L, c.length ≤ n) (d : Cd) : covC L (d.take n) ↔ covC L d := by
  constructor
  · rintro ⟨c, hc, p⟩; exact ⟨c, hc, p.trans (List.take_prefix n d)⟩
  · rintro ⟨c, hc, p⟩
    refine ⟨c, hc, ?_⟩
    rw [List.prefix_take_iff]
    exact ⟨p, h c hc⟩
theorem ptn_take {n : Nat} (n9 : n ≤ 9) {d : Cd} (hd : Ptn d) : Fn n (d.take n) := ⟨by rw [List.length_take, hd.1]; omega, fun x hx => hd.2 x (List.mem_of_mem_take hx)⟩
/-! ### a dict told whole -/
theorem Wkn.frzD {a : Addr} {S : Sto} {ks xs : List Pv} (h : S a = some (.dct ks xs)) : Wkn (.ref a) S (.dct ks xs) (del S a) := ⟨Sub.del, fun K H v rs r => by
  obtain ⟨kvs, e, r1, r2⟩ := rs a _ h
  have e1 : v = .ref a := r
  exact ⟨a, kvs, e1, .inl e, by simp, r1.sub Sub.del, r2.sub Sub.del⟩⟩
theorem Out.frzD {Q : QV} {a : Addr} {S S' : Sto} {ks xs : List Pv} (h : S a = some (.dct ks xs)) (h2 : Sub S' (del S a)) (q : Q (.dct ks xs) S') : Out Q (.ref a) S := ⟨.dct ks xs, S', (Wkn.frzD h).trans (Wkn.less h2), q⟩
theorem sub_two {S : Sto} {D E : Addr} {m m' : Mo} (hD : S D = none) (hE : S E = none) : Sub S (del (put (put S D m) E m') D) := fun z o hz => by
  have h1 : z ≠ D := fun e => by rw [e, hD] at hz; cases hz
  have h2 : z ≠ E := fun e => by rw [e, hE] at hz; cases hz
  rw [show del (put (put S D m) E m') D z = put (put S D m) E m' z from if_neg h1, put_ne h2, put_ne h1]
  exact hz
theorem none_two {S : Sto} {D E : Addr} {m : Mo} (hE : put S D m E = none) : S E = none ∧ D ≠ E := by
  have hne : D ≠ E := fun e => by rw [e, put_same] at hE; cases hE
  rw [put_ne (Ne.symm hne)] at hE
  exact ⟨hE, hne⟩
/-! ### dict(pairs) that is walked or changed later -/
def oDictOfT : On := fun ps S Q => match ps with
  | [x] => (match rdL S x with | some ys => ∃ ts : List (Pv × Pv), ys = ts.map tpP ∧ (∀ t ∈ ts, (kyP t.1).isSome = true) ∧ (ts.map (·.1)).Nodup ∧ ∀ a, S a = none → Q (.ref a) (put S a (.dct (ts.map (·.1)) (ts.map (·.2)))) | none => False)
  | _ => False
section
variable {X : Cx} {S0 : Sto} {H0 : Hp} {a b e : Expr} {fa fb fe : PF} {pos p : Pos} {fs : PFs}
theorem pv_dictOfT (hc : X.calm = true) (hm : X.mg "dict" = none) (ha : PVs X S0 H0 [a] fs) (hg : Gl X "dict" := by rfl) (he : starEach (a :: []) X.env = (false, eval a X.env) :: starEach [] X.env := by rfl) (hpl : (backTo pos (starEach [] X.env)).any (·.1) = false := by rfl) : PV X S0 H0 (.Call (.Name "dict" p) [a] [] pos) (fN oDictOfT fs) := by
  refine pv_callTy (call_dictP hc) ⟨fun x S Q Q' h q => ?_, fun x S Qp v H Q rx rs h k => ?_⟩ hg hm (by decide +kernel) ha (by decide) (by decide) he hpl
  · unfold oDictOfT at q ⊢
    split at q
    · split at q
      · obtain ⟨ts, h1, h2, h3, h4⟩ := q
        exact ⟨ts, h1, h2, h3, fun a ha => h _ _ (h4 a ha)⟩
      · exact q
    · exact q
  · unfold oDictOfT at h
    split at h
    · obtain ⟨v1, rfl, r1⟩ := rx.one
      split at h
      · rename_i ys e1
        obtain ⟨ts, rfl, h2, h3, h4⟩ := h
        obtain ⟨l, us, e2, hq, ru⟩ := rdL_rep rs r1 e1
        obtain ⟨ps, kvs, a1, a2, a3, a4⟩ := pairs_rep ru h2
        subst a1
        have ek := keys_rep a3 fun z hz => by obtain ⟨t, ht, rfl⟩ := List.mem_map.mp hz; exact h2 t ht
        have nd : ((([] : List (Key × V)) ++ kvs).map (·.1)).Nodup := by
          have n1 : ((ts.map (fun t : Pv × Pv => t.1)).map kyP).Nodup := by
            refine List.Pairwise.map kyP (R := fun x y => x ≠ y ∧ (kyP x).isSome = true) (fun x y h e => ?_) ?_
            · obtain ⟨c, hc⟩ := Option.isSome_iff_exists.mp h.2
              exact h.1 (kyP_inj hc (by rw [← e]; exact hc))
            · have hall : ∀ x ∈ ts.map (fun t : Pv × Pv => t.1), (kyP x).isSome = true := fun x hx => by obtain ⟨t, ht, rfl⟩ := List.mem_map.mp hx; exact h2 t ht
              exact List.Pairwise.imp_of_mem (fun {x y} hx hy hne => ⟨hne, hall x hx⟩) h3
          rw [ek] at n1
          have : (kvs.map fun kv => some kv.1) = (kvs.map (fun kv : Key × V => kv.1)).map some := by rw [List.map_map]; rfl
          rw [this] at n1
          exact List.Pairwise.of_map some (fun x y hne e => hne (congrArg some e)) n1
        refine ⟨l, ps, kvs, by rw [e2], hq, a2, fun p' np => ?_⟩
        rw [merge_nodup kvs [] nd, List.nil_append]
        have e0 : Ext S H (put S p' (.dct [] [])) (upd H p' (.dK [])) := Ext.newS np
        have rs2 := (rs.newD np).chgD put_same (RepVs.ext rs e0 _ _ a3) (RepVs.ext rs e0 _ _ a4)
        have e2 := e0.trans (Ext.chg (m' := .dct (ts.map (·.1)) (ts.map (·.2))) (o := .dK kvs) put_same)
        rw [put_put, upd_upd] at rs2 e2
        exact k _ _ _ _ (h4 p' (rs.fr np)) rfl rs2 e2
      · exact h.elim
    · exact h.elim
end
end PL

namespace PL
open PySem PySem.Spec PyProof.Rows L2
def v_FIGURES : Pv := (.str "0123")
def v_MOST_CODES : Pv := (.int 1024)
def v_MOST_DEPTH : Pv := (.int 9)

theorem ris_step {x y : Pv} {xs : List Pv} (hk : kindS xs) (hx : x ∈ xs) (hy : y ∈ xs) {S : Sto} {Q : QV} (q : Q (.bl (ltP x y)) S) : oLt x y S Q := by
  rcases hk with ⟨ss, rfl⟩ | ⟨is, rfl⟩
  · obtain ⟨a, _, rfl⟩ := List.mem_map.mp hx
    obtain ⟨b, _, rfl⟩ := List.mem_map.mp hy
    exact q
  · obtain ⟨a, _, rfl⟩ := List.mem_map.mp hx
    obtain ⟨b, _, rfl⟩ := List.mem_map.mp hy
    exact q
def tl2 (b : Bool) (xs : List Pv) : Pv := match b with
  | true => .tup xs
  | false => .lst xs
def sp_rises : PSp := SpF (fun (a : Bool × List Pv) => [tl2 a.1 a.2]) (fun a => kindS a.2 ∧ a.2.length ≤ 1024) fun a => .bl (risP a.2)
def b_rises : PFS :=
  gRet (fN oAll (fCons (fLc (fZip (fCons (fVar 0) (fCons (fSl (fVar 0) (fPart (fC (.int 1))) (fNoPart)) (fNil)))) (.tp [.nm 1, .nm 2]) (fYes) (f2 oLt (fVar 1) (fVar 2)) [1, 2]) (fNil)))
theorem len_rises : ∀ (xs : List Pv) (S : Sto) (Q : QV) (E : QE), sp_rises xs S Q E → xs.length = 1 := SpF.len fun _ => rfl
theorem mono_rises : ∀ (xs : List Pv) (S : Sto) (Q Q' : QV) (E E' : QE), (∀ p S', Q p S' → Q' p S') → (∀ C S', E C S' → E' C S') → sp_rises xs S Q E → sp_rises xs S Q' E' := SpF.mono
theorem ex_rises {xs : List Pv} {S0 : Sto} {Q : QV} {Ep : QE} : sp_rises xs S0 Q Ep → b_rises (endD Q) (st0 3 xs) S0 := SpF.ex fun ⟨b, xs⟩ S Q ⟨hk, hl⟩ q => by
  have hk : kindS xs := hk
  have hl : xs.length ≤ 1024 := hl
  have q : Q (.bl (risP xs)) S := q
  have main : ∀ gd : Sto → Prop, (∀ S', Has S S' → gd S') → ∀ D, S D = none → lcW gd (.tp [.nm 1, .nm 2]) fYes (f2 oLt (fVar 1) (fVar 2)) [some (tl2 b xs), none, none] D (fun acc S' => oAll [.lst acc] S' (Out Q)) (zipP xs xs.tail) [] S := by
    intro gd hg
    rw [zipP_zip]
    refine lc_map (xs.zip xs.tail) (fun p => .tup [p.1, p.2]) (fun p => .bl (ltP p.1 p.2)) rfl (by rw [List.length_zip]; exact Nat.le_trans (Nat.min_le_left _ _) (Nat.le_trans hl (by decide))) hg (fun p hp S2 _ => ⟨_, rfl, fun k hk2 => ?_⟩) ?_
    · have h1 := List.of_mem_zip hp
      exact ris_step hk h1.1 (List.mem_of_mem_tail h1.2) hk2
    · refine all_i (f := fun p : Pv × Pv => ltP p.1 p.2) (xs := xs.zip xs.tail) (Out.id ?_)
      rw [List.all_map]
      exact q
  cases b with
  | true =>
    conv => whnf
    rw [cut_tail]
    exact main _ fun _ _ => trivial
  | false =>
    conv => whnf
    rw [cut_tail]
    exact main _ fun _ _ => ⟨trivial, trivial⟩

def sp_is_code : PSp := SpF (fun (x : Pv) => [x]) (fun x => smP x = true) fun x => .bl (codeP x)
def b_is_code : PFS :=
  gRet (fAndV (f1 (oIsi .str) (fVar 0)) (fAndV (f2 oLe (fN oLen (fCons (fVar 0) (fNil))) (fC v_MOST_DEPTH)) (fN oAll (fCons (fLc (fIt (fVar 0)) (.nm 1) (fYes) (f2 (oIn false) (fVar 1) (fC v_FIGURES)) [1]) (fNil)))))
theorem len_is_code : ∀ (xs : List Pv) (S : Sto) (Q : QV) (E : QE), sp_is_code xs S Q E → xs.length = 1 := SpF.len fun _ => rfl
theorem mono_is_code : ∀ (xs : List Pv) (S : Sto) (Q Q' : QV) (E E' : QE), (∀ p S', Q p S' → Q' p S') → (∀ C S', E C S' → E' C S') → sp_is_code xs S Q E → sp_is_code xs S Q' E' := SpF.mono
theorem ex_is_code {xs : List Pv} {S0 : Sto} {Q : QV} {Ep : QE} : sp_is_code xs S0 Q Ep → b_is_code (endD Q) (st0 2 xs) S0 := SpF.ex fun x S Q h q => by
  cases x with
  | ref a => cases h
  | ty n => cases h
  | scr n => cases h
  | str x =>
    have hl := smP_str h
    have q : Q (.bl (decide (x.length ≤ 9) && x.cps.toList.all figC)) S := q
    conv => whnf
    rw [len_str hl]
    refine cnd_i (b := decide (((x.length : Nat) : Int) ≤ 9)) (fun e1 => ?_) (fun e1 => ?_)
    · conv => whnf
      rw [chars_map]
      refine lc_map x.cps.toList (fun c => .str ⟨#[c]⟩) (fun c => .bl (figC c)) rfl (Nat.le_trans hl (by decide)) (fun _ _ => trivial) (fun c hc S2 _ => ⟨_, rfl, fun k hk => ?_⟩) ?_
      · have e := in_fig c
        rw [← e] at hk
        exact hk
      · refine all_i (f := figC) (xs := x.cps.toList) (Out.id ?_)
        have := of_decide_eq_true e1
        rw [decide_eq_true (show x.length ≤ 9 by omega), Bool.true_and] at q
        rw [List.all_map]
        exact q
    · have := of_decide_eq_false e1
      rw [decide_eq_false (show ¬ x.length ≤ 9 by omega), Bool.false_and] at q
      exact Out.id q
  | _ => exact Out.id q

def sp_are_codes : PSp := SpF (fun (L : List Cd) => [.tup (cvs L), .int 9]) (fun L => CsOk L ∧ L.length ≤ 1024) fun _ => .bl true
def b_are_codes : PFS :=
  gSeq (gIf (fOr (fNot (fBV (f1 (oIsi .tup) (fVar 0)))) (fBV (f2 oGt (fN oLen (fCons (fVar 0) (fNil))) (fC v_MOST_CODES)))) (gRet (fC (.bl false))) (gNext))
    (gSeq (gIf (fOr (fNot (fBV (fN oAll (fCons (fLc (fIt (fVar 0)) (.nm 2) (fYes) (fAndV (fCall sp_is_code [] noE (fCons (fVar 2) (fNil))) (f2 oLe (fN oLen (fCons (fVar 2) (fNil))) (fVar 1))) [2]) (fNil))))) (fNot (fBV (fCall sp_rises [] noE (fCons (fVar 0) (fNil)))))) (gRet (fC (.bl false))) (gNext))
    (gRet (fNotV (fN oAny (fCons (fLc (fZip (fCons (fVar 0) (fCons (fSl (fVar 0) (fPart (fC (.int 1))) (fNoPart)) (fNil)))) (.tp [.nm 2, .nm 3]) (fYes) (fMs oStarts (fVar 3) (fVar 2)) [2, 3]) (fNil))))))
theorem len_are_codes : ∀ (xs : List Pv) (S : Sto) (Q : QV) (E : QE), sp_are_codes xs S Q E → xs.length = 2 := SpF.len fun _ => rfl
theorem mono_are_codes : ∀ (xs : List Pv) (S : Sto) (Q Q' : QV) (E E' : QE), (∀ p S', Q p S' → Q' p S') → (∀ C S', E C S' → E' C S') → sp_are_codes xs S Q E → sp_are_codes xs S Q' E' := SpF.mono
theorem sm_cd {c : Cd} (h : Vd c) : smP (cdK c) = true := by
  show (decide ((cdS c).length ≤ 1000) && asc (cdS c)) = true
  rw [Bool.and_eq_true]
  exact ⟨decide_eq_true (by rw [cd_len]; have := h.1; omega), (codeN_asc (codeN_vd h)).1⟩
theorem cs_all {L : List Cd} (h : CsOk L) : (((L.map cdS).zip (L.map cdS).tail).all fun p => strLt p.1 p.2) = true ∧ (((L.map cdS).zip (L.map cdS).tail).any fun p => preS p.1 p.2) = false := by
  have hc := h.codes
  rw [strs_cvs] at hc
  have hc : (match allS ((L.map cdS).map Pv.str) with | some ss => codesS 9 ss | none => false) = true := hc
  rw [allS_str] at hc
  have hc : codesS 9 (L.map cdS) = true := hc
  unfold codesS at hc
  rw [Bool.and_eq_true, adj_apart, Bool.and_eq_true] at hc
  refine ⟨hc.2.1, ?_⟩
  have := hc.2.2
  simpa using this
theorem ex_are_codes {xs : List Pv} {S0 : Sto} {Q : QV} {Ep : QE} : sp_are_codes xs S0 Q Ep → b_are_codes (endD Q) (st0 4 xs) S0 := SpF.ex fun L S Q ⟨hL, hl⟩ q => by
  have hL : CsOk L := hL
  have hl : L.length ≤ 1024 := hl
  have q : Q (.bl true) S := q
  refine cnd_f (b := decide ((1024 : Int) < ((cvs L).length : Nat))) (decide_eq_false (by rw [List.length_map]; omega)) ?_
  refine lc_map L cdK (fun _ => .bl true) rfl (Nat.le_trans hl (by decide)) (fun _ _ => trivial) (fun c hc S2 _ => ⟨_, rfl, fun k hk => ?_⟩) ?_
  · have hv := hL.vd c hc
    refine ⟨cdK c, rfl, sm_cd hv, ?_⟩
    have hcd : (codeS (cdS c) && decide ((cdS c).length ≤ 9)) = true := codeN_vd hv
    rw [Bool.and_eq_true] at hcd
    refine cnd_t (b := codeS (cdS c)) hcd.1 ?_
    conv => whnf
    rw [show lenP _ (cdK c) = some c.length from len_cd hv.1]
    have e2 : decide (((c.length : Nat) : Int) ≤ (9 : Int)) = true := decide_eq_true (by have := hv.1; omega)
    show k (.bl (decide (((c.length : Nat) : Int) ≤ (9 : Int)))) S2
    rw [e2]
    exact hk
  conv => whnf
  rw [bl_list]
  refine cnd_f (b := !(L.map fun _ => true).all id) (by simp) ?_
  refine ⟨(true, cvs L), rfl, ⟨.inl ⟨L.map cdS, strs_cvs L⟩, (show (cvs L).length ≤ 1024 by rw [List.length_map]; exact hl)⟩, ?_⟩
  refine cnd_f (b := !risP (cvs L)) (by rw [strs_cvs, risP_str, (cs_all hL).1]; rfl) ?_
  conv => whnf
  rw [strs_cvs, cut_tail, ← List.map_tail, zipP_zip, List.zip_map, List.map_map]
  refine lc_map ((L.map cdS).zip (L.map cdS).tail) ((fun p : Pv × Pv => .tup [p.1, p.2]) ∘ Prod.map Pv.str Pv.str) (fun p => .bl (preS p.1 p.2)) (by rw [List.map_map]) (by rw [List.length_zip]; exact Nat.le_trans (Nat.min_le_left _ _) (by rw [List.length_map]; exact Nat.le_trans hl (by decide))) (fun _ _ => trivial) (fun p hp S2 _ => ⟨_, rfl, fun k hk2 => ⟨rfl, hk2⟩⟩) ?_
  conv => whnf
  rw [bl_list]
  refine Out.id ?_
  show Q (.bl (!(((L.map cdS).zip (L.map cdS).tail).map fun p : Str × Str => preS p.1 p.2).any id)) S
  rw [List.any_map]
  have := (cs_all hL).2
  rw [show (((L.map cdS).zip (L.map cdS).tail).any (id ∘ fun p : Str × Str => preS p.1 p.2)) = false from this]
  exact q

def sp_need_codes : PSp := SpF (fun (L : List Cd) => [.tup (cvs L)]) (fun L => CsOk L ∧ L.length ≤ 1024) fun _ => .non
def b_need_codes : PFS :=
  gIf (fNot (fBV (fCall sp_are_codes [.int 9] noE (fCons (fVar 0) (fNil))))) (gNever) (gNext)
theorem len_need_codes : ∀ (xs : List Pv) (S : Sto) (Q : QV) (E : QE), sp_need_codes xs S Q E → xs.length = 1 := SpF.len fun _ => rfl
theorem mono_need_codes : ∀ (xs : List Pv) (S : Sto) (Q Q' : QV) (E E' : QE), (∀ p S', Q p S' → Q' p S') → (∀ C S', E C S' → E' C S') → sp_need_codes xs S Q E → sp_need_codes xs S Q' E' := SpF.mono
theorem ex_need_codes {xs : List Pv} {S0 : Sto} {Q : QV} {Ep : QE} : sp_need_codes xs S0 Q Ep → b_need_codes (endD Q) (st0 1 xs) S0 := SpF.ex fun L S Q h k => ⟨L, rfl, h, cnd_f (b := !true) rfl (Out.id k)⟩

def sp_merged_by : PSp := SpS (fun (a : Bool × List Cd × List Cd) => [seqV a.1 a.2.1]) (fun a _ => (∀ c ∈ a.2.1, Vd c) ∧ Anti a.2.1 ∧ Bg a.2.2 a.2.1 ∧ Us a.2.2 ∧ a.2.1.length ≤ 4000) fun a S p S' => ∃ M, IsM (covC a.2.1) M ∧ Bg a.2.2 M ∧ p = .tup (cvs M) ∧ S = S'
def b_merged_by : PFS :=
  gSeq (gSet 1 (fDcT (fIt (fVar 0)) (.nm 5) (fYes) (fVar 5) (fC (.bl true)) [5]))
    (gSeq (gBeg [2, 3] (gFor (fRng3 (fCons (fC v_MOST_DEPTH) (fCons (fC (.int 0)) (fCons (f1 oNeg (fC (.int 1))) (fNil))))) (.nm 2) (gEnd [2, 3] (gBeg [3] (gFor (fIt (fLockD 1 (fScSorted (fKeysL (fVar 1)) (.nm 5) (fBV (f2 oEq (fN oLen (fCons (fVar 5) (fNil))) (fVar 2))) (fSl (fVar 5) (fNoPart) (fPart (f1 oNeg (fC (.int 1))))) [5]))) (.nm 3) (gEnd [3] (gIf (fBV (fN oAll (fCons (fLc (fIt (fC v_FIGURES)) (.nm 4) (fYes) (f2 (oIn2 false) (f2 oAdd (fVar 3) (fVar 4)) (fVar 1)) [4]) (fNil)))) (gSeq (gFor (fIt (fC v_FIGURES)) (.nm 4) (gDrop (fPopK (fVar 1) (f2 oAdd (fVar 3) (fVar 4)))))
    (gPutG (fC (.bl true)) (fVar 1) (fVar 3))) (gNext))))))))
    (gRet (fN oTuple (fCons (fN oSortedDL (fCons (fVar 1) (fNil))) (fNil)))))
theorem len_merged_by : ∀ (xs : List Pv) (S : Sto) (Q : QV) (E : QE), sp_merged_by xs S Q E → xs.length = 1 := SpS.len fun _ => rfl
theorem mono_merged_by : ∀ (xs : List Pv) (S : Sto) (Q Q' : QV) (E E' : QE), (∀ p S', Q p S' → Q' p S') → (∀ C S', E C S' → E' C S') → sp_merged_by xs S Q E → sp_merged_by xs S Q' E' := SpS.mono
theorem it_fig (S : Sto) : itP S v_FIGURES = some (kidsC.map fg, tru) := by
  show some (chars (Str.ofString "0123"), _) = _
  rw [fig_chars]
theorem sz2 {n : Nat} (h : n ≤ 100000) : n ≤ sizeLine := Nat.le_trans h (by decide)
theorem dcP_put {S : Sto} {D : Addr} {ks xs : List Pv} : dcP (put S D (.dct ks xs)) (.ref D) = some (ks, xs) := by simp [dcP, put_same]
theorem sub_put {S : Sto} {D : Addr} {m : Mo} (h : S D = Option.none) : Sub S (PL.put S D m) := fun z o hz => by
  rw [put_ne (fun e => by rw [e, h] at hz; cases hz)]; exact hz
set_option maxHeartbeats 1000000 in
theorem ex_merged_by {xs : List Pv} {S0 : Sto} {Q : QV} {Ep : QE} : sp_merged_by xs S0 Q Ep → b_merged_by (endD Q) (st0 6 xs) S0 := SpS.ex fun ⟨b, L, U⟩ S Q ⟨hv, ha, hb, hu, hl⟩ q => by
  have hv : ∀ c ∈ L, Vd c := hv
  have ha : Anti L := ha
  have hb : Bg U L := hb
  have hl : L.length ≤ 4000 := hl
  have hu : Us U := hu
  have q : ∀ p S', (∃ M, IsM (covC L) M ∧ Bg U M ∧ p = .tup (cvs M) ∧ S = S') → Q p S' := q
  conv => whnf
  rw [it_seq]
  intro D hD
  refine dcW_pure cdK cdK (fun _ => .bl true) hD (fun _ => trivial) L [] [] (by rw [List.length_nil]; exact sz2 (by omega)) (fun c hc => ⟨rfl, fun S' _ => ⟨_, rfl, fun k hk => hk, fun k hk => hk⟩⟩) ?_
  rw [show mgD [] [] (L.map cdK) (L.map fun _ => Pv.bl true) = _ from mgD_ded L]
  try simp only [st0, wipeP, List.set_cons_zero, List.set_cons_succ, List.map_cons, List.map_nil, List.cons_append, List.nil_append, List.replicate_succ, List.replicate_zero, List.length_cons, List.length_nil, Nat.reduceSub, Nat.reduceAdd]
  refine ⟨9, RgC.neg (i := 9) (j := 0) (by decide) (by decide) (by decide) (by decide), ?_⟩
  try simp only [st0, wipeP, List.set_cons_zero, List.set_cons_succ, List.map_cons, List.map_nil, List.cons_append, List.nil_append, List.replicate_succ, List.replicate_zero, List.length_cons, List.length_nil, Nat.reduceSub, Nat.reduceAdd]
  refine forW_acc (fun (k : Nat) => .int ((9 : Int) + (k : Int) * (-1))) (List.range 9) (fun pre ρ S' => ∃ L' x4, ρ = [some (seqV b L), some (.ref D), none, none, x4, none] ∧ S' = put S D (.dct (cvs L') (trs L')) ∧ Mg (covC L) (9 - pre.length) L' ∧ Bg U L') ?_ ?_ [] (List.range 9) _ _ rfl ⟨dedC L, none, rfl, rfl, Mg.ded hv ha, dedC_bg hb⟩
  · rintro _ _ ⟨L', x4, rfl, rfl, hm, hb'⟩
    refine ⟨trivial, ?_⟩
    have hlen := hm.len hu hb'
    rw [List.length_range] at hm
    conv => whnf
    rw [dcP_put]
    refine ⟨L'.map cdS, strs_cvs L', by rw [List.length_map]; exact sz2 (by omega), ?_⟩
    show Out Q (.tup ((sortS (L'.map cdS)).map .str)) (put S D (.dct (cvs L') (trs L')))
    rw [sortC_map, ← strs_cvs]
    exact Out.less (sub_put hD) (q _ _ ⟨sortC L', hm.isM, sortC_bg hb', rfl, rfl⟩)
  rintro pre k post e kk hk _ _ ⟨L', x4, rfl, rfl, hm, hb'⟩
  have hpl : k = pre.length ∧ k < 9 := by
    have hk := congrArg (fun l => l[pre.length]?) e
    have hl := congrArg List.length e
    simp only [List.length_append, List.length_cons, List.length_range] at hl
    simp only [List.getElem?_append_right (Nat.le_refl _), Nat.sub_self, List.getElem?_cons_zero] at hk
    rw [List.getElem?_range (by omega)] at hk
    injection hk with hk
    omega
  obtain ⟨rfl, hk9⟩ := hpl
  obtain ⟨n, hn⟩ : ∃ n, 9 - pre.length = n + 1 := ⟨8 - pre.length, by omega⟩
  have hn' : ∀ x : Nat, 9 - (pre ++ [x]).length = n := fun x => by rw [List.length_append, List.length_singleton]; omega
  have hi : (9 : Int) + (pre.length : Int) * (-1) = ((n + 1 : Nat) : Int) := by omega
  rw [hn] at hm
  have hk : ∀ L' x4, Mg (covC L) n L' → Bg U L' → kk [some (seqV b L), some (.ref D), none, none, x4, none] (put S D (.dct (cvs L') (trs L'))) := fun L' x4 h1 h2 => hk _ _ ⟨L', x4, rfl, rfl, by rw [hn']; exact h1, h2⟩
  rw [hi]
  clear hi e
  refine ⟨trivial, ?_⟩
  try simp only [st0, wipeP, List.set_cons_zero, List.set_cons_succ, List.map_cons, List.map_nil, List.cons_append, List.nil_append, List.replicate_succ, List.replicate_zero, List.length_cons, List.length_nil, Nat.reduceSub, Nat.reduceAdd]
  conv => whnf
  rw [put_same]
  refine ⟨ky_cvs L', fun o kvs hkv => ?_⟩
  conv => whnf
  rw [put_same]
  refine ⟨false, candC U n, cand_lt hu n, ?_⟩
  dsimp only
  rw [hkv]
  refine scW_filter cdK (fun c => decide (c.length = n + 1)) (fun c => cdK c.dropLast) put_same L' [] (fun c hc => ⟨_, rfl, fun k2 hk2 => ?_, fun hc2 => ⟨⟨rfl, cand_mem hb' hc (of_decide_eq_true hc2)⟩, fun k2 hk2 => ?_⟩⟩) ?_
  · have h9 := (hm.vd c hc).1
    conv => whnf
    rw [show lenP _ (cdK c) = some c.length from len_cd h9]
    show k2 (decide (((c.length : Nat) : Int) = ((n + 1 : Nat) : Int))) _
    rw [show decide (((c.length : Nat) : Int) = ((n + 1 : Nat) : Int)) = decide (c.length = n + 1) from decide_eq_decide.mpr (by omega)]
    exact hk2
  · have hne : c ≠ [] := fun z => by
      have := of_decide_eq_true hc2
      rw [z] at this
      cases this
    conv => whnf
    refine ⟨by rw [cd_len]; exact sz2 (by have := (hm.vd c hc).1; omega), ?_⟩
    show k2 (.str (cutS (cdS c) none (some (-1)))) _
    rw [cut_last hne]
    exact hk2
  rw [List.nil_append, show (L'.filter fun c => decide (c.length = n + 1)).map (fun c => cdK c.dropLast) = cvs (begsC L' (n + 1)) by unfold begsC cvs; rw [List.map_map]; rfl]
  refine ⟨(alike_cvs _).1, (alike_cvs _).2, fun ys hys => ⟨put_same, ?_⟩⟩
  obtain ⟨B, rfl, ndB, hB⟩ := set_cds hys
  rw [sort_cvs, put_put, put_put]
  show forW _ _ _ _ (cvs (sortC B)) _ _
  have hlB : ∀ x ∈ sortC B, x.length + 1 = n + 1 := fun x hx => by
    obtain ⟨c, _, hl, rfl⟩ := begs_mem.mp ((hB x).mp (sortC_mem.mp hx))
    rw [List.length_dropLast, hl]; rfl
  try simp only [st0, wipeP, List.set_cons_zero, List.set_cons_succ, List.map_cons, List.map_nil, List.cons_append, List.nil_append, List.replicate_succ, List.replicate_zero, List.length_cons, List.length_nil, Nat.reduceSub, Nat.reduceAdd]
  refine forW_acc cdK (sortC B) (fun done ρ S' => ∃ L2 x4, ρ = [some (seqV b L), some (.ref D), some (.int ((n + 1 : Nat) : Int)), none, x4, none] ∧ S' = put S D (.dct (cvs L2) (trs L2)) ∧ Mi (covC L) (n + 1) L' done L2 ∧ Bg U L2) ?_ ?_ [] (sortC B) _ _ rfl ⟨L', x4, rfl, rfl, Mi.begin hm, hb'⟩
  · rintro _ _ ⟨L2, y4, rfl, rfl, hmi, hb2⟩
    refine ⟨trivial, ?_⟩
    try simp only [st0, wipeP, List.set_cons_zero, List.set_cons_succ, List.map_cons, List.map_nil, List.cons_append, List.nil_append, List.replicate_succ, List.replicate_zero, List.length_cons, List.length_nil, Nat.reduceSub, Nat.reduceAdd]
    refine hk L2 y4 (hmi.fin fun c hc hl => sortC_mem.mpr ((hB _).mpr (begs_mem.mpr ⟨c, hc, hl, rfl⟩))) hb2
  rintro done g post e kk2 hk2 _ _ ⟨L2, y4, rfl, rfl, hmi, hb2⟩
  have hg : g ∈ sortC B := by rw [← e]; simp
  refine ⟨trivial, ?_⟩
  try simp only [st0, wipeP, List.set_cons_zero, List.set_cons_succ, List.map_cons, List.map_nil, List.cons_append, List.nil_append, List.replicate_succ, List.replicate_zero, List.length_cons, List.length_nil, Nat.reduceSub, Nat.reduceAdd]
  conv => whnf
  refine lc_map kidsC fg (fun s => .bl (decide (g ++ [s] ∈ L2))) fig_chars (by decide) (fun _ _ => trivial) (fun s hs S2 hS => ⟨_, rfl, fun k3 hk3 => ?_⟩) ?_
  · have hs2 : S2 D = some (.dct (cvs L2) (trs L2)) := hS _ _ put_same
    have hv2 := (hmi.mg.vd)
    conv => whnf
    refine ⟨by rw [cd_len]; exact sz2 (by have := hlB g hg; show g.length + 1 ≤ _; omega), ?_⟩
    conv => whnf
    rw [show dcP S2 (.ref D) = some (cvs L2, trs L2) by simp [dcP, hs2]]
    rw [← getK_is] at hk3
    rw [cd_kid]
    exact ⟨rfl, ky_cvs L2, hk3⟩
  have hgU : Quad L2 g → g ∈ U := fun z => hb2.quad z
  refine cnd_i (b := quadB L2 g) (fun e3 => ?_) (fun e3 => ?_)
  · have hq := quadB_iff.mp e3
    try simp only [st0, wipeP, List.set_cons_zero, List.set_cons_succ, List.map_cons, List.map_nil, List.cons_append, List.nil_append, List.replicate_succ, List.replicate_zero, List.length_cons, List.length_nil, Nat.reduceSub, Nat.reduceAdd]
    simp only [gSeq, gFor, fIt, fC, it_fig]
    refine forW_acc fg kidsC (fun took ρ S' => ∃ y5, ρ = [some (seqV b L), some (.ref D), some (.int ((n + 1 : Nat) : Int)), some (cdK g), y5, none] ∧ S' = put S D (.dct (cvs (remC g L2 took)) (trs (remC g L2 took)))) ?_ ?_ [] kidsC _ _ rfl ⟨y4, rfl, rfl⟩
    · rintro _ _ ⟨y5, rfl, rfl⟩
      refine ⟨trivial, ?_⟩
      try simp only [st0, wipeP, List.set_cons_zero, List.set_cons_succ, List.map_cons, List.map_nil, List.cons_append, List.nil_append, List.replicate_succ, List.replicate_zero, List.length_cons, List.length_nil, Nat.reduceSub, Nat.reduceAdd]
      conv => whnf
      rw [put_same]
      have hrl : (remC g L2 kidsC).length ≤ 1601 := by
        have h1 := hmi.mg.len hu hb2
        have h2 := nodup_leC (rem_nd g kidsC L2 hmi.mg.nd) fun x hx => ((rem_mem g kidsC L2 x).mp hx).1
        omega
      refine ⟨rfl, ky_cvs _, by rw [List.length_map]; exact Nat.lt_of_le_of_lt hrl (by decide), ?_⟩
      rw [show putD (cvs (remC g L2 kidsC)) (trs (remC g L2 kidsC)) (cdK g) (.bl true) = _ from putD_c _ _, put_put]
      exact hk2 _ _ ⟨mrgC L2 g, y5, rfl, rfl, hmi.step (fun x hx => hlB x (by rw [← e]; simp [hx])) (hlB g hg) hq (fun c => mrgC_mem) (mrgC_nd hmi.mg.nd), mrgC_bg hu hb2 (hgU hq)⟩
    · rintro took s post2 e2 kk3 hk3 _ _ ⟨y5, rfl, rfl⟩
      have hs4 : s ∈ kidsC := by rw [← e2]; simp
      have hin : g ++ [s] ∈ remC g L2 took := by
        refine (rem_mem g took L2 _).mpr ⟨hq s (kid_lt hs4), fun t ht z => ?_⟩
        have est : s = t := by simpa using z
        have nd : kidsC.Nodup := by decide
        rw [← e2] at nd
        have := (List.nodup_append.mp nd).2.2 t ht s List.mem_cons_self
        exact this est.symm
      refine ⟨trivial, ?_⟩
      conv => whnf
      refine ⟨by simp [ckD, put_same], by rw [cd_len]; exact sz2 (by have := hlB g hg; show g.length + 1 ≤ _; omega), ?_⟩
      conv => whnf
      rw [put_same, cd_kid]
      refine ⟨rfl, ky_cvs _, .bl true, by rw [show Pv.str (cdS (g ++ [s])) = cdK (g ++ [s]) from rfl, getK_cvs, if_pos hin], ?_⟩
      rw [show Pv.str (cdS (g ++ [s])) = cdK (g ++ [s]) from rfl, show dropD (cvs (remC g L2 took)) (trs (remC g L2 took)) (cdK (g ++ [s])) = _ from dropD_c _ _, put_put]
      refine hk3 _ _ ⟨_, rfl, ?_⟩
      rw [rem_snoc]
  · have hnq := quadB_no e3
    refine hk2 _ _ ⟨L2, y4, rfl, rfl, hmi.skip hnq, hb2⟩

theorem take_has (L : List Cd) (c : Cd) : (((List.range (c.length + 1)).map fun j => decide (c.take j ∈ L)).any id) = hasB L c := by
  rw [Bool.eq_iff_iff, hasB_iff, List.any_eq_true]
  constructor
  · rintro ⟨x, hx, e⟩
    obtain ⟨j, hj, rfl⟩ := List.mem_map.mp hx
    exact ⟨c.take j, of_decide_eq_true e, List.take_prefix j c⟩
  · rintro ⟨o, ho, p⟩
    refine ⟨true, List.mem_map.mpr ⟨o.length, List.mem_range.mpr (Nat.lt_succ_of_le p.length_le), ?_⟩, rfl⟩
    rw [← List.prefix_iff_eq_take.mp p]
    exact decide_eq_true ho
theorem cut_cd (c : Cd) (j : Nat) : cutS (cdS c) none (some (j : Int)) = cdS (c.take j) := by
  have e1 : HT.sIx (cdS c).length 0 none = 0 := rfl
  have e2 : HT.sIx (cdS c).length (cdS c).length (some (j : Int)) = min j (cdS c).length := by
    show (if (j : Int) < 0 then ((j : Int) + ((cdS c).length : Int)).toNat else min (j : Int).toNat (cdS c).length) = _
    rw [if_neg (by omega), Int.toNat_natCast]
  unfold cutS
  rw [e1, e2, List.drop_zero, Nat.sub_zero, cd_len]
  refine str_ext ?_
  show (c.map (· + 48)).take (min j c.length) = (c.take j).map (· + 48)
  rw [← List.map_take]
  congr 1
  by_cases h : j ≤ c.length
  · rw [Nat.min_eq_left h]
  · rw [Nat.min_eq_right (by omega), List.take_length, List.take_of_length_le (by omega)]
theorem dcD_codes {te tv : PF} {ρ : Env'} {Q : List Pv → List Pv → Sto → Prop} {S : Sto} {n : Nat} {gd : Sto → Prop} (L : List Cd) (hl : L.length ≤ 4000) (hg : ∀ S', gd S') (h1 : ∀ c S', ∃ ρ2, bindT S' (.nm n) (cdK c) ρ = some ρ2 ∧ (∀ k : QV, k (cdK c) S' → te ρ2 S' k) ∧ ∀ k : QV, k (.bl true) S' → tv ρ2 S' k) (q : Q (cvs (dedC L)) (trs (dedC L)) S) : ∀ D, S D = none → dcW gd (.nm n) fYes te tv ρ D Q (cvs L) [] [] S := fun D hD => by
  refine dcW_pure cdK cdK (fun _ => .bl true) hD hg L [] [] (by rw [List.length_nil]; exact sz3 (by omega)) (fun c hc => ⟨rfl, fun S' _ => h1 c S'⟩) ?_
  rw [show mgD [] [] (L.map cdK) (L.map fun _ => Pv.bl true) = _ from mgD_ded L]
  exact q
def sp_has : PSp := SpF (fun (a : List Cd × Cd) => [.dct (cvs a.1) (trs a.1), cdK a.2]) (fun a => a.2.length ≤ 100) fun a => .bl (hasB a.1 a.2)
def b_has : PFS :=
  gRet (fN oAny (fCons (fLc (fRng1 (fCons (f2 oAdd (fN oLen (fCons (fVar 1) (fNil))) (fC (.int 1))) (fNil))) (.nm 2) (fYes) (f2 (oIn2 false) (fSl (fVar 1) (fNoPart) (fPart (fVar 2))) (fVar 0)) [2]) (fNil)))
theorem len_has : ∀ (xs : List Pv) (S : Sto) (Q : QV) (E : QE), sp_has xs S Q E → xs.length = 2 := SpF.len fun _ => rfl
theorem mono_has : ∀ (xs : List Pv) (S : Sto) (Q Q' : QV) (E E' : QE), (∀ p S', Q p S' → Q' p S') → (∀ C S', E C S' → E' C S') → sp_has xs S Q E → sp_has xs S Q' E' := SpF.mono
theorem ex_has {xs : List Pv} {S0 : Sto} {Q : QV} {Ep : QE} : sp_has xs S0 Q Ep → b_has (endD Q) (st0 3 xs) S0 := SpF.ex fun ⟨L, c⟩ S Q h q => by
  have h : c.length ≤ 100 := h
  have q : Q (.bl (hasB L c)) S := q
  have hl : (cdS c).length ≤ 1000 := by rw [cd_len]; omega
  conv => whnf
  show match lenP S (.str (cdS c)) with | some n => _ | none => False
  rw [len_str hl, cd_len]
  refine ⟨⟨by omega, by omega⟩, ?_⟩
  refine lc_map (List.range (c.length + 1)) (fun (j : Nat) => .int ((0 : Int) + j)) (fun j => .bl (decide (c.take j ∈ L))) (by unfold rngP; rfl) (by rw [List.length_range]; exact Nat.le_trans (show c.length + 1 ≤ 101 by omega) (by decide)) (fun _ _ => trivial) (fun j hj S2 _ => ⟨_, rfl, fun k hk => ?_⟩) ?_
  · conv => whnf
    rw [Int.zero_add, cut_cd]
    refine ⟨by rw [cd_len]; exact Nat.le_trans h (by decide), ?_⟩
    rw [← getK_is] at hk
    exact ⟨rfl, ky_cvs L, hk⟩
  · conv => whnf
    rw [bl_list]
    refine Out.id ?_
    rw [take_has]
    exact q

def sp_common_by : PSp := SpS (fun (a : List Cd × List Cd × List Cd) => [.tup (cvs a.1), .tup (cvs a.2.1)]) (fun a _ => CsOk a.1 ∧ CsOk a.2.1 ∧ Bg a.2.2 a.1 ∧ Bg a.2.2 a.2.1 ∧ Us a.2.2) fun a S p S' => ∃ M, IsM (fun d => covC a.1 d ∧ covC a.2.1 d) M ∧ Bg a.2.2 M ∧ p = .tup (cvs M) ∧ S = S'
def b_common_by : PFS :=
  gSeq (gTgt (.tp [.nm 2, .nm 3]) (fN oTup (fCons (fDc (fIt (fVar 0)) (.nm 5) (fYes) (fVar 5) (fC (.bl true)) [5]) (fCons (fDc (fIt (fVar 1)) (.nm 5) (fYes) (fVar 5) (fC (.bl true)) [5]) (fNil)))))
    (gSeq (gSet 4 (f2 oAdd (fLc (fIt (fVar 0)) (.nm 5) (fBV (fCall sp_has [] noE (fCons (fVar 3) (fCons (fVar 5) (fNil))))) (fVar 5) [5]) (fLc (fIt (fVar 1)) (.nm 5) (fBV (fCall sp_has [] noE (fCons (fVar 2) (fCons (fVar 5) (fNil))))) (fVar 5) [5])))
    (gRet (fCall sp_merged_by [] noE (fCons (fVar 4) (fNil)))))
theorem len_common_by : ∀ (xs : List Pv) (S : Sto) (Q : QV) (E : QE), sp_common_by xs S Q E → xs.length = 2 := SpS.len fun _ => rfl
theorem mono_common_by : ∀ (xs : List Pv) (S : Sto) (Q Q' : QV) (E E' : QE), (∀ p S', Q p S' → Q' p S') → (∀ C S', E C S' → E' C S') → sp_common_by xs S Q E → sp_common_by xs S Q' E' := SpS.mono
theorem CsOk.len {U L : List Cd} (h : CsOk L) (hU : Us U) (hb : Bg U L) : L.length ≤ 1601 := by
  have h1 := bg_len hb h.nd fun c hc => (h.vd c hc).2
  have := hU.all
  omega
theorem ex_common_by {xs : List Pv} {S0 : Sto} {Q : QV} {Ep : QE} : sp_common_by xs S0 Q Ep → b_common_by (endD Q) (st0 6 xs) S0 := SpS.ex fun ⟨L, o, U⟩ S Q ⟨hL, ho, bL, bo, hu⟩ q => by
  have hL : CsOk L := hL
  have ho : CsOk o := ho
  have bL : Bg U L := bL
  have bo : Bg U o := bo
  have hu : Us U := hu
  have l1 := hL.len hu bL
  have l2 := ho.len hu bo
  have q : ∀ p S', (∃ M, IsM (fun d => covC L d ∧ covC o d) M ∧ Bg U M ∧ p = .tup (cvs M) ∧ S = S') → Q p S' := q
  refine dcD_codes L (by omega) (fun _ => trivial) (fun c S' => ⟨_, rfl, fun k hk => hk, fun k hk => hk⟩) ?_
  rw [ded_nd hL.nd]
  refine dcD_codes o (by omega) (fun _ => trivial) (fun c S' => ⟨_, rfl, fun k hk => hk, fun k hk => hk⟩) ?_
  rw [ded_nd ho.nd]
  refine ⟨lz rfl, ?_⟩
  try simp only [st0, wipeP, List.set_cons_zero, List.set_cons_succ, List.map_cons, List.map_nil, List.cons_append, List.nil_append, List.replicate_succ, List.replicate_zero, List.length_cons, List.length_nil, Nat.reduceSub, Nat.reduceAdd]
  refine lc_filter L cdK (hasB o) cdK rfl (sz2 (by omega)) (fun _ _ => trivial) (fun c hc S' _ => ⟨_, rfl, fun kk hk => ⟨(o, c), rfl, Nat.le_trans (hL.vd c hc).1 (by decide), hk⟩, fun _ k hk => hk⟩) ?_
  refine lc_filter o cdK (hasB L) cdK rfl (sz2 (by omega)) (fun _ _ => trivial) (fun c hc S' _ => ⟨_, rfl, fun kk hk => ⟨(L, c), rfl, Nat.le_trans (ho.vd c hc).1 (by decide), hk⟩, fun _ k hk => hk⟩) ?_
  have fl1 := List.length_filter_le (hasB o) L
  have fl2 := List.length_filter_le (hasB L) o
  obtain ⟨c1, c2, c3⟩ := com_ok hL.vd ho.vd hL.anti ho.anti
  conv => whnf
  refine ⟨by rw [List.length_map, List.length_map]; exact sz2 (by omega), ?_⟩
  rw [← List.map_append]
  try simp only [st0, wipeP, List.set_cons_zero, List.set_cons_succ, List.map_cons, List.map_nil, List.cons_append, List.nil_append, List.replicate_succ, List.replicate_zero, List.length_cons, List.length_nil, Nat.reduceSub, Nat.reduceAdd]
  refine ⟨(false, comC L o, U), rfl, ⟨c1, c2, com_bg bL bo, hu, ?_⟩, ?_⟩
  · show (L.filter (hasB o) ++ o.filter (hasB L)).length ≤ 4000
    rw [List.length_append]; omega
  rintro _ _ ⟨M, h1, h2, rfl, rfl⟩
  exact Out.id (q _ _ ⟨M, h1.of c3, h2, rfl, rfl⟩)

def preL (a : Cd × Bool × List Cd × List Cd) : Prop := Vd a.1 ∧ (∀ c ∈ a.2.2.1, Vd c) ∧ a.2.2.1.length ≤ 4000 ∧ Us a.2.2.2 ∧ a.1.dropLast ∈ a.2.2.2 ∧ Bg a.2.2.2 a.2.2.1
abbrev argL (a : Cd × Bool × List Cd × List Cd) : List Pv := [cdK a.1, seqV a.2.1 a.2.2.1]
def sp_less_by : Nat → PSp
  | 0 => fun _ _ _ _ => False
  | n + 1 => SpF argL (fun a => preL a ∧ 10 ≤ n + 1 + a.1.length) fun a => .lst (cvs (lessC (n + 1) a.1 a.2.2.1))
def b_less_by (n : Nat) : PFS :=
  gSeq (gIf (fBV (fCall sp_has [] noE (fCons (fDc (fIt (fVar 1)) (.nm 3) (fYes) (fVar 3) (fC (.bl true)) [3]) (fCons (fVar 0) (fNil))))) (gRet (fN oLst (fNil))) (gNext))
    (gSeq (gSet 2 (fLc (fIt (fVar 1)) (.nm 3) (fBV (fMs oStarts (fVar 3) (fVar 0))) (fVar 3) [3]))
    (gSeq (gIf (fBV (f2 oEq (fVar 2) (fN oLst (fNil)))) (gRet (fN oLst (fCons (fVar 0) (fNil)))) (gNext))
    (gRet (fLc2 (fIt (fC v_FIGURES)) (.nm 4) (fYes) (fIt (fCall (sp_less_by n) [] noE (fCons (f2 oAdd (fVar 0) (fVar 4)) (fCons (fVar 2) (fNil))))) (.nm 3) (fYes) (fVar 3) [4, 3] [3]))))
theorem len_less_by : ∀ (n : Nat) (xs : List Pv) (S : Sto) (Q : QV) (E : QE), sp_less_by n xs S Q E → xs.length = 2
  | 0 => fun _ _ _ _ h => h.elim
  | _ + 1 => SpF.len fun _ => rfl
theorem mono_less_by : ∀ (n : Nat) (xs : List Pv) (S : Sto) (Q Q' : QV) (E E' : QE), (∀ p S', Q p S' → Q' p S') → (∀ C S', E C S' → E' C S') → sp_less_by n xs S Q E → sp_less_by n xs S Q' E'
  | 0 => fun _ _ _ _ _ _ _ _ h => h
  | _ + 1 => SpF.mono
theorem ex_less_by {n : Nat} {xs : List Pv} {S0 : Sto} {Q : QV} {Ep : QE} : sp_less_by (n + 1) xs S0 Q Ep → b_less_by n (endD Q) (st0 5 xs) S0 := fun h => SpF.ex (Ep := Ep) (args := argL) (pre := fun a => preL a ∧ 10 ≤ n + 1 + a.1.length) (res := fun a => .lst (cvs (lessC (n + 1) a.1 a.2.2.1))) (b := b_less_by n) (n := 5) (fun ⟨c, b, o, U⟩ S Q ⟨⟨hv, ho, hl, hu, hc, hb⟩, hn⟩ q => by
  have hv : Vd c := hv
  have ho : ∀ x ∈ o, Vd x := ho
  have hl : o.length ≤ 4000 := hl
  have hu : Us U := hu
  have hc : c.dropLast ∈ U := hc
  have hb : Bg U o := hb
  have hn : 10 ≤ n + 1 + c.length := hn
  have q : Q (.lst (cvs (lessC (n + 1) c o))) S := q
  conv => whnf
  rw [it_seq]
  refine dcD_codes o hl (fun _ => trivial) (fun x S' => ⟨_, rfl, fun k hk => hk, fun k hk => hk⟩) ?_
  try simp only [st0, wipeP, List.set_cons_zero, List.set_cons_succ, List.map_cons, List.map_nil, List.cons_append, List.nil_append, List.replicate_succ, List.replicate_zero, List.length_cons, List.length_nil, Nat.reduceSub, Nat.reduceAdd]
  refine ⟨(dedC o, c), rfl, Nat.le_trans hv.1 (by decide), ?_⟩
  have eh : hasB (dedC o) c = hasB o c := by rw [Bool.eq_iff_iff, hasB_iff, hasB_iff, dedC_cov]
  refine cnd_i (b := hasB (dedC o) c) (fun e1 => ?_) (fun e1 => ?_) <;> rw [eh] at e1
  · have e : lessC (n + 1) c o = [] := by unfold lessC; rw [if_pos e1]
    rw [e] at q
    exact ⟨lz rfl, Out.id q⟩
  conv => whnf
  rw [it_seq]
  refine lc_filter o cdK (pB c) cdK rfl (sz2 (by omega)) (fun _ _ => trivial) (fun x hx S' _ => ⟨_, rfl, fun kk hk => ?_, fun _ k hk => hk⟩) ?_
  · rw [show pB c x = preS (cdS c) (cdS x) from (preS_cd c x).symm] at hk
    exact ⟨rfl, hk⟩
  try simp only [st0, wipeP, List.set_cons_zero, List.set_cons_succ, List.map_cons, List.map_nil, List.cons_append, List.nil_append, List.replicate_succ, List.replicate_zero, List.length_cons, List.length_nil, Nat.reduceSub, Nat.reduceAdd]
  have hw : ∀ x ∈ o.filter (pB c), Vd x := fun x hx => ho x (List.mem_filter.mp hx).1
  have hwl : (o.filter (pB c)).length ≤ 4000 := Nat.le_trans (List.length_filter_le _ _) hl
  have hwb : Bg U (o.filter (pB c)) := fun x hx => hb x (List.mem_filter.mp hx).1
  refine ⟨lz rfl, ⟨by rw [show top S (.lst (List.map cdK (o.filter (pB c)))) = .lst (((o.filter (pB c)).map cdS).map .str) by rw [← strs_cvs]; rfl]; exact okD_lstr fun s hs => by obtain ⟨x, hx, rfl⟩ := List.mem_map.mp hs; exact (codeN_asc (codeN_vd (hw x hx))).1, rfl⟩, ?_⟩
  refine cnd_i (b := PyData.eqv (.list (toDs (cvs (o.filter (pB c))))) (.list [])) (fun e2 => ?_) (fun e2 => ?_) <;> rw [eqv_nil, toDs_map, List.isEmpty_map, List.isEmpty_map] at e2
  · have e2 := List.isEmpty_iff.mp e2
    have e : lessC (n + 1) c o = [c] := by unfold lessC; rw [if_neg (by rw [e1]; decide), if_pos e2]
    rw [e] at q
    exact ⟨lz rfl, Out.id q⟩
  have e2 : o.filter (pB c) ≠ [] := fun z => by rw [z] at e2; cases e2
  have e : lessC (n + 1) c o = kidsC.flatMap fun s => lessC n (c ++ [s]) (o.filter (pB c)) := by
    conv => lhs; unfold lessC
    rw [if_neg (by rw [e1]; decide), if_neg e2]
  rw [e] at q
  obtain ⟨h9, y, hy, py, ney⟩ := inner_lt ho e1 e2
  have hcU : c ∈ U := hu.cl _ (hb y hy) c (pre_drop py ney)
  obtain ⟨n, rfl⟩ : ∃ m, n = m + 1 := ⟨n - 1, by omega⟩
  simp only [gRet, fLc2, fIt, fC, it_fig]
  intro D hD
  have ua := hu.all
  refine lc2_depC 1601 (fun s => lessC (n + 1) (c ++ [s]) (o.filter (pB c))) fg cdK (fun _ x => cdK x) hD (fun _ => trivial) kidsC [] (by decide) (fun s hs => ?_) ?_
  · have vs := vd_snoc hv h9 (kid_lt hs)
    have lo := less_ok (n + 1) (c ++ [s]) _ vs hw (by rw [List.length_append, List.length_singleton]; omega)
    have lb := less_bg hu (n + 1) (c ++ [s]) _ (by rw [List.dropLast_concat]; exact hcU) hwb hw
    have ll := bg_len lb lo.nd fun x hx => (lo.vd x hx).2
    refine ⟨by omega, fun S' _ => ⟨_, rfl, fun k hk => ?_, fun y hy S'' _ => ⟨_, rfl, fun k hk => hk⟩⟩⟩
    refine ⟨by rw [cd_len]; exact sz2 (by show c.length + 1 ≤ _; omega), (c ++ [s], false, o.filter (pB c), U), ?_, ⟨⟨vs, hw, hwl, hu, by rw [List.dropLast_concat]; exact hcU, hwb⟩, (show 10 ≤ n + 1 + (c ++ [s]).length by rw [List.length_append, List.length_singleton]; omega)⟩, hk⟩
    show [Pv.str (cdS c ++ (⟨#[s + 48]⟩ : Str)), Pv.lst (cvs (o.filter (pB c)))] = _
    rw [cd_kid]; rfl
  · show Out Q (.lst ([] ++ kidsC.flatMap fun x => (lessC (n + 1) (c ++ [x]) (o.filter (pB c))).map cdK)) S
    rw [List.nil_append, ← List.map_flatMap]
    exact Out.id q) h

def sp_without_by : PSp := SpS (fun (a : List Cd × List Cd × List Cd) => [.tup (cvs a.1), .tup (cvs a.2.1)]) (fun a _ => CsOk a.1 ∧ CsOk a.2.1 ∧ Bg a.2.2 a.1 ∧ Bg a.2.2 a.2.1 ∧ Us a.2.2) fun a S p S' => ∃ M, IsM (fun d => covC a.1 d ∧ ¬ covC a.2.1 d) M ∧ Bg a.2.2 M ∧ p = .tup (cvs M) ∧ S = S'
def b_without_by : PFS :=
  gRet (fCall sp_merged_by [] noE (fCons (fLc2 (fIt (fVar 0)) (.nm 2) (fYes) (fIt (fCall (sp_less_by 11) [] noE (fCons (fVar 2) (fCons (fVar 1) (fNil))))) (.nm 3) (fYes) (fVar 3) [2, 3] [3]) (fNil)))
theorem len_without_by : ∀ (xs : List Pv) (S : Sto) (Q : QV) (E : QE), sp_without_by xs S Q E → xs.length = 2 := SpS.len fun _ => rfl
theorem mono_without_by : ∀ (xs : List Pv) (S : Sto) (Q Q' : QV) (E E' : QE), (∀ p S', Q p S' → Q' p S') → (∀ C S', E C S' → E' C S') → sp_without_by xs S Q E → sp_without_by xs S Q' E' := SpS.mono
theorem ex_without_by {xs : List Pv} {S0 : Sto} {Q : QV} {Ep : QE} : sp_without_by xs S0 Q Ep → b_without_by (endD Q) (st0 4 xs) S0 := SpS.ex fun ⟨L, o, U⟩ S Q ⟨hL, ho, bL, bo, hu⟩ q => by
  have hL : CsOk L := hL
  have ho : CsOk o := ho
  have bL : Bg U L := bL
  have bo : Bg U o := bo
  have hu : Us U := hu
  have l1 := hL.len hu bL
  have l2 := ho.len hu bo
  have q : ∀ p S', (∃ M, IsM (fun d => covC L d ∧ ¬ covC o d) M ∧ Bg U M ∧ p = .tup (cvs M) ∧ S = S') → Q p S' := q
  obtain ⟨w1, w2, w3, w4⟩ := wout_ok hL.vd hL.nd hL.anti ho.vd
  have wb := wout_bg hu bL bo ho.vd
  have wl := bg_len wb w2 fun c hc => (w1 c hc).2
  have ua := hu.all
  intro D hD
  refine lc2_depC 1601 (lessC 11 · o) cdK cdK (fun _ x => cdK x) hD (fun _ => trivial) L [] (by rw [List.length_nil]; have := Nat.mul_le_mul_right 1601 l1; exact Nat.le_trans (show _ ≤ 3000000 by omega) (by decide)) (fun c hc => ?_) ?_
  · have lo := less_ok 11 c o (hL.vd c hc) ho.vd (by omega)
    have lb := less_bg hu 11 c o (bL c hc) bo ho.vd
    have ll := bg_len lb lo.nd fun x hx => (lo.vd x hx).2
    refine ⟨by omega, fun S' _ => ⟨_, rfl, fun k hk => ?_, fun y hy S'' _ => ⟨_, rfl, fun k hk => hk⟩⟩⟩
    refine ⟨(c, true, o, U), rfl, ⟨⟨hL.vd c hc, ho.vd, (show o.length ≤ 4000 by omega), hu, bL c hc, bo⟩, (show 10 ≤ 10 + 1 + c.length by omega)⟩, hk⟩
  try simp only [st0, wipeP, List.set_cons_zero, List.set_cons_succ, List.map_cons, List.map_nil, List.cons_append, List.nil_append, List.replicate_succ, List.replicate_zero, List.length_cons, List.length_nil, Nat.reduceSub, Nat.reduceAdd]
  refine ⟨(false, woutC L o, U), (show [Pv.lst (L.flatMap fun x => (lessC 11 x o).map fun x => cdK x)] = [Pv.lst (cvs (woutC L o))] by unfold woutC cvs; rw [List.map_flatMap]), ⟨w1, w3, wb, hu, ?_⟩, ?_⟩
  · show (woutC L o).length ≤ 4000
    omega
  rintro _ _ ⟨M, h1, h2, rfl, rfl⟩
  exact Out.id (q _ _ ⟨M, h1.of w4, h2, rfl, rfl⟩)

def sp_merged : PSp := SpS (fun (a : List Cd × List Cd) => [.tup (cvs a.1)]) (fun a _ => CsOk a.1 ∧ Bg a.2 a.1 ∧ Us a.2 ∧ a.1.length ≤ 1024) fun a S p S' => ∃ M, IsM (covC a.1) M ∧ Bg a.2 M ∧ p = .tup (cvs M) ∧ S = S'
def b_merged : PFS :=
  gSeq (gDrop (fCall sp_need_codes [] noE (fCons (fVar 0) (fNil))))
    (gRet (fCall sp_merged_by [] noE (fCons (fVar 0) (fNil))))
theorem len_merged : ∀ (xs : List Pv) (S : Sto) (Q : QV) (E : QE), sp_merged xs S Q E → xs.length = 1 := SpS.len fun _ => rfl
theorem mono_merged : ∀ (xs : List Pv) (S : Sto) (Q Q' : QV) (E E' : QE), (∀ p S', Q p S' → Q' p S') → (∀ C S', E C S' → E' C S') → sp_merged xs S Q E → sp_merged xs S Q' E' := SpS.mono
theorem ex_merged {xs : List Pv} {S0 : Sto} {Q : QV} {Ep : QE} : sp_merged xs S0 Q Ep → b_merged (endD Q) (st0 1 xs) S0 := SpS.ex fun ⟨L, U⟩ S Q ⟨hL, bL, hu, hl⟩ q => by
  have hL : CsOk L := hL
  have hl : L.length ≤ 1024 := hl
  refine ⟨L, rfl, ⟨hL, hl⟩, ?_⟩
  refine ⟨(true, L, U), rfl, ⟨hL.vd, hL.anti, bL, hu, (show L.length ≤ 4000 by omega)⟩, ?_⟩
  rintro _ _ ⟨M, h1, h2, rfl, rfl⟩
  exact Out.id (q _ _ ⟨M, h1, h2, rfl, rfl⟩)

def sp_need_both : PSp := SpF (fun (a : List Cd × List Cd) => [.tup (cvs a.1), .tup (cvs a.2)]) (fun a => (CsOk a.1 ∧ a.1.length ≤ 1024) ∧ CsOk a.2 ∧ a.2.length ≤ 1024) fun _ => .non
def b_need_both : PFS :=
  gSeq (gDrop (fCall sp_need_codes [] noE (fCons (fVar 0) (fNil))))
    (gDrop (fCall sp_need_codes [] noE (fCons (fVar 1) (fNil))))
theorem len_need_both : ∀ (xs : List Pv) (S : Sto) (Q : QV) (E : QE), sp_need_both xs S Q E → xs.length = 2 := SpF.len fun _ => rfl
theorem mono_need_both : ∀ (xs : List Pv) (S : Sto) (Q Q' : QV) (E E' : QE), (∀ p S', Q p S' → Q' p S') → (∀ C S', E C S' → E' C S') → sp_need_both xs S Q E → sp_need_both xs S Q' E' := SpF.mono
theorem ex_need_both {xs : List Pv} {S0 : Sto} {Q : QV} {Ep : QE} : sp_need_both xs S0 Q Ep → b_need_both (endD Q) (st0 2 xs) S0 := SpF.ex fun ⟨x, y⟩ S Q ⟨h1, h2⟩ k => ⟨x, rfl, h1, y, rfl, h2, Out.id k⟩

def sp_common : PSp := SpS (fun (a : List Cd × List Cd × List Cd) => [.tup (cvs a.1), .tup (cvs a.2.1)]) (fun a _ => CsOk a.1 ∧ CsOk a.2.1 ∧ Bg a.2.2 a.1 ∧ Bg a.2.2 a.2.1 ∧ Us a.2.2 ∧ a.1.length ≤ 1024 ∧ a.2.1.length ≤ 1024) fun a S p S' => ∃ M, IsM (fun d => covC a.1 d ∧ covC a.2.1 d) M ∧ Bg a.2.2 M ∧ p = .tup (cvs M) ∧ S = S'
def b_common : PFS :=
  gSeq (gDrop (fCall sp_need_both [] noE (fCons (fVar 0) (fCons (fVar 1) (fNil)))))
    (gRet (fCall sp_common_by [] noE (fCons (fVar 0) (fCons (fVar 1) (fNil)))))
theorem len_common : ∀ (xs : List Pv) (S : Sto) (Q : QV) (E : QE), sp_common xs S Q E → xs.length = 2 := SpS.len fun _ => rfl
theorem mono_common : ∀ (xs : List Pv) (S : Sto) (Q Q' : QV) (E E' : QE), (∀ p S', Q p S' → Q' p S') → (∀ C S', E C S' → E' C S') → sp_common xs S Q E → sp_common xs S Q' E' := SpS.mono
theorem ex_common {xs : List Pv} {S0 : Sto} {Q : QV} {Ep : QE} : sp_common xs S0 Q Ep → b_common (endD Q) (st0 2 xs) S0 := SpS.ex fun ⟨L, o, U⟩ S Q ⟨hL, ho, bL, bo, hu, l1, l2⟩ q => by
  refine ⟨(L, o), rfl, ⟨⟨hL, l1⟩, ho, l2⟩, ?_⟩
  refine ⟨(L, o, U), rfl, ⟨hL, ho, bL, bo, hu⟩, ?_⟩
  rintro _ _ ⟨M, h1, h2, rfl, rfl⟩
  exact Out.id (q _ _ ⟨M, h1, h2, rfl, rfl⟩)

def sp_without : PSp := SpS (fun (a : List Cd × List Cd × List Cd) => [.tup (cvs a.1), .tup (cvs a.2.1)]) (fun a _ => CsOk a.1 ∧ CsOk a.2.1 ∧ Bg a.2.2 a.1 ∧ Bg a.2.2 a.2.1 ∧ Us a.2.2 ∧ a.1.length ≤ 1024 ∧ a.2.1.length ≤ 1024) fun a S p S' => ∃ M, IsM (fun d => covC a.1 d ∧ ¬ covC a.2.1 d) M ∧ Bg a.2.2 M ∧ p = .tup (cvs M) ∧ S = S'
def b_without : PFS :=
  gSeq (gDrop (fCall sp_need_both [] noE (fCons (fVar 0) (fCons (fVar 1) (fNil)))))
    (gRet (fCall sp_without_by [] noE (fCons (fVar 0) (fCons (fVar 1) (fNil)))))
theorem len_without : ∀ (xs : List Pv) (S : Sto) (Q : QV) (E : QE), sp_without xs S Q E → xs.length = 2 := SpS.len fun _ => rfl
theorem mono_without : ∀ (xs : List Pv) (S : Sto) (Q Q' : QV) (E E' : QE), (∀ p S', Q p S' → Q' p S') → (∀ C S', E C S' → E' C S') → sp_without xs S Q E → sp_without xs S Q' E' := SpS.mono
theorem ex_without {xs : List Pv} {S0 : Sto} {Q : QV} {Ep : QE} : sp_without xs S0 Q Ep → b_without (endD Q) (st0 2 xs) S0 := SpS.ex fun ⟨L, o, U⟩ S Q ⟨hL, ho, bL, bo, hu, l1, l2⟩ q => by
  refine ⟨(L, o), rfl, ⟨⟨hL, l1⟩, ho, l2⟩, ?_⟩
  refine ⟨(L, o, U), rfl, ⟨hL, ho, bL, bo, hu⟩, ?_⟩
  rintro _ _ ⟨M, h1, h2, rfl, rfl⟩
  exact Out.id (q _ _ ⟨M, h1, h2, rfl, rfl⟩)

def sp__law_cell_at : PSp := SpF (fun (a : List Int × Nat) => [.scr (a.1.map .int), .int a.2]) (fun _ => True) fun a => .int (a.1.getD a.2 0)
def b__law_cell_at : PFS :=
  gSeq (gIf (fBV (f2 oLt (fVar 1) (fN oLen (fCons (fVar 0) (fNil))))) (gRet (f2 oIx (fVar 0) (fVar 1))) (gNext))
    (gRet (fC (.int 0)))
theorem len__law_cell_at : ∀ (xs : List Pv) (S : Sto) (Q : QV) (E : QE), sp__law_cell_at xs S Q E → xs.length = 2 := SpF.len fun _ => rfl
theorem mono__law_cell_at : ∀ (xs : List Pv) (S : Sto) (Q Q' : QV) (E E' : QE), (∀ p S', Q p S' → Q' p S') → (∀ C S', E C S' → E' C S') → sp__law_cell_at xs S Q E → sp__law_cell_at xs S Q' E' := SpF.mono
theorem ex__law_cell_at {xs : List Pv} {S0 : Sto} {Q : QV} {Ep : QE} : sp__law_cell_at xs S0 Q Ep → b__law_cell_at (endD Q) (st0 2 xs) S0 := SpF.ex fun ⟨ns, k⟩ S Q _ q => by
  have q : Q (.int (ns.getD k 0)) S := q
  refine cnd_i (b := decide ((k : Int) < ((ns.map Pv.int).length : Nat))) (fun e => ?_) fun e => ?_
  · have e : k < ns.length := by
      have e' : (k : Int) < ((ns.map Pv.int).length : Nat) := by simpa using e
      rw [List.length_map] at e'
      omega
    have ha : atI (ns.map Pv.int) (k : Int) = some (.int (ns.getD k 0)) := atI_nat (by
      rw [List.getElem?_map, List.getElem?_eq_getElem e, List.getD_eq_getElem?_getD, List.getElem?_eq_getElem e]; rfl)
    show match atI (ns.map Pv.int) (k : Int) with | some p => Out Q p S | none => False
    rw [ha]
    exact Out.id q
  · have e : ¬ k < ns.length := by
      have e' : ¬ (k : Int) < ((ns.map Pv.int).length : Nat) := by simpa using e
      rw [List.length_map] at e'
      omega
    rw [List.getD_eq_getElem?_getD, List.getElem?_eq_none (by omega)] at q
    exact Out.id q

def sp__law_state : PSp := SpS (fun (a : List Int × Nat) => [.scr (a.1.map .int), .int a.2]) (fun _ _ => True) fun _ S p S' => ∃ l m, S l = none ∧ St3 m ∧ p = .ref l ∧ S' = put S l m
def b__law_state : PFS :=
  gSeq (gSet 2 (fCall sp__law_cell_at [] noE (fCons (fVar 0) (fCons (fVar 1) (fNil)))))
    (gRet (fN oLstT (fCons (fN oMax (fCons (fC (.int 0)) (fCons (f2 oSub (fVar 2) (f2 oPow (fC (.int 10)) (fC (.int 18)))) (fNil)))) (fCons (f2 oAdd (f2 oMod (fVar 2) (fC (.int 2147483629))) (fC (.int 1))) (fCons (fC (.int 0)) (fNil))))))
theorem len__law_state : ∀ (xs : List Pv) (S : Sto) (Q : QV) (E : QE), sp__law_state xs S Q E → xs.length = 2 := SpS.len fun _ => rfl
theorem mono__law_state : ∀ (xs : List Pv) (S : Sto) (Q Q' : QV) (E E' : QE), (∀ p S', Q p S' → Q' p S') → (∀ C S', E C S' → E' C S') → sp__law_state xs S Q E → sp__law_state xs S Q' E' := SpS.mono
theorem ex__law_state {xs : List Pv} {S0 : Sto} {Q : QV} {Ep : QE} : sp__law_state xs S0 Q Ep → b__law_state (endD Q) (st0 3 xs) S0 := SpS.ex fun ⟨ns, k⟩ S Q _ q => by
  have hm := fmod_bd (i := ns.getD k 0) (j := 2147483629) (by decide)
  refine ⟨(ns, k), rfl, trivial, ⟨by decide, by decide, by decide⟩, by decide, lz rfl, fun l hl => Out.id (q _ _ ⟨l, _, hl, ⟨_, _, _, rfl, ?_, ?_, ?_⟩, rfl, rfl⟩)⟩
  · show 0 ≤ (if ns.getD k 0 - 10 ^ 18 > 0 then ns.getD k 0 - 10 ^ 18 else 0)
    split <;> omega
  · show 0 ≤ (ns.getD k 0).fmod 2147483629 + 1
    omega
  · show (ns.getD k 0).fmod 2147483629 + 1 < 2 ^ 40
    omega

def sp__law_choice : PSp := SpS (fun (a : Addr × Int) => [.ref a.1, .int a.2]) (fun a S => (∃ m, S a.1 = some m ∧ St3 m) ∧ 0 < a.2 ∧ a.2 < 2 ^ 64) fun a S p S' => ∃ r m, 0 ≤ r ∧ r < a.2 ∧ St3 m ∧ p = .int r ∧ S' = put S a.1 m
def b__law_choice : PFS :=
  gSeq (gIf (fBV (f2 oGt (f2 oIx (fVar 0) (fC (.int 0))) (fC (.int 0)))) (gSeq (gSet 2 (f2 oMod (f2 oIx (fVar 0) (fC (.int 0))) (fVar 1)))
    (gSeq (gSetIx (f2 oDiv (f2 oIx (fVar 0) (fC (.int 0))) (fVar 1)) (fVar 0) (fC (.int 0)))
    (gRet (fVar 2)))) (gNext))
    (gSeq (gSetIx (f2 oAdd (f2 oIx (fVar 0) (fC (.int 2))) (fC (.int 1))) (fVar 0) (fC (.int 2)))
    (gSeq (gSetIx (f2 oMod (f2 oAdd (f2 oAdd (f2 oMul (f2 oIx (fVar 0) (fC (.int 1))) (fC (.int 48271))) (fC (.int 29))) (f2 oIx (fVar 0) (fC (.int 2)))) (fC (.int 2147483647))) (fVar 0) (fC (.int 1)))
    (gSeq (gSet 3 (f2 oMod (f2 oAdd (f2 oAdd (f2 oMul (f2 oIx (fVar 0) (fC (.int 1))) (f2 oIx (fVar 0) (fC (.int 1)))) (f2 oMul (fC (.int 39373)) (f2 oIx (fVar 0) (fC (.int 1))))) (fC (.int 7))) (fC (.int 2147483629))))
    (gSeq (gSet 3 (f2 oMod (f2 oAdd (f2 oMul (fVar 3) (fVar 3)) (f2 oMul (fC (.int 50021)) (fVar 3))) (fC (.int 2147483587))))
    (gRet (f2 oMod (f2 oDiv (fVar 3) (fC (.int 8))) (fVar 1)))))))
theorem len__law_choice : ∀ (xs : List Pv) (S : Sto) (Q : QV) (E : QE), sp__law_choice xs S Q E → xs.length = 2 := SpS.len fun _ => rfl
theorem mono__law_choice : ∀ (xs : List Pv) (S : Sto) (Q Q' : QV) (E E' : QE), (∀ p S', Q p S' → Q' p S') → (∀ C S', E C S' → E' C S') → sp__law_choice xs S Q E → sp__law_choice xs S Q' E' := SpS.mono
theorem ex__law_choice {xs : List Pv} {S0 : Sto} {Q : QV} {Ep : QE} : sp__law_choice xs S0 Q Ep → b__law_choice (endD Q) (st0 4 xs) S0 := SpS.ex fun ⟨l, n⟩ S Q ⟨⟨m, hS, d, u, c, hm, hd, hu, hu2⟩, hn, hn2⟩ q => by
  subst hm
  have hS : S l = some (.lst [.int d, .int u, .int c]) := hS
  have hn : 0 < n := hn
  have hn2 : n < 2 ^ 64 := hn2
  have hl : n.natAbs.log2 < 9000 := log_lt (n := 64) (by unfold szI; omega) (by decide)
  simp only [b__law_choice, gSeq, gIf, gSet, gSetIx, gRet, gNext, fBV, f2, fVar, fC, oIx, oCmpI, rdL, oMod, oDiv, oAdd, oMul, oSetIx, st0, hS, put_same, put_put, at0, at1, at2, List.length_cons, List.length_nil, List.map_cons, List.map_nil, List.cons_append, List.nil_append, List.getElem?_cons_zero, List.getElem?_cons_succ, List.set_cons_zero, List.set_cons_succ, List.replicate]
  have hn0 : n ≠ 0 := by omega
  refine cnd_i (fun e => ⟨hn0, ⟨hn0, hl⟩, Out.id (q _ _ ⟨_, _, (fmod_bd hn).1, (fmod_bd hn).2, ⟨_, _, _, rfl, fdiv_nn hd hn, hu, hu2⟩, rfl, rfl⟩)⟩) fun e => ?_
  have h1 := fmod_bd (i := u * 48271 + 29 + (c + 1)) (j := 2147483647) (by decide)
  refine ⟨mulOk40 hu hu2 (by decide) (by decide), by decide, ?_⟩
  conv => whnf
  generalize (u * 48271 + 29 + (c + 1)).fmod 2147483647 = v at h1 ⊢
  have h2 := fmod_bd (i := v * v + 39373 * v + 7) (j := 2147483629) (by decide)
  refine ⟨mulOk40 h1.1 (by omega) h1.1 (by omega), mulOk40 (by decide) (by decide) h1.1 (by omega), by decide, ?_⟩
  conv => whnf
  generalize (v * v + 39373 * v + 7).fmod 2147483629 = x at h2 ⊢
  refine ⟨mulOk40 h2.1 (by omega) h2.1 (by omega), mulOk40 (by decide) (by decide) h2.1 (by omega), by decide, ⟨by decide, by decide +kernel⟩, hn0, Out.id (q _ _ ⟨_, _, (fmod_bd hn).1, (fmod_bd hn).2, ⟨d, v, c + 1, rfl, hd, h1.1, by omega⟩, rfl, rfl⟩)⟩

def sp__law_same : PSp := SpB (fun (a : Pv × Pv) => [a.1, a.2]) (fun a S => okR (top S a.1) ∧ okR (top S a.2)) fun a S => decide ((toD (top S a.1)).shown = (toD (top S a.2)).shown)
def b__law_same : PFS :=
  gRet (f2 oEq (fN oRepr (fCons (fVar 0) (fNil))) (fN oRepr (fCons (fVar 1) (fNil))))
theorem len__law_same : ∀ (xs : List Pv) (S : Sto) (Q : QV) (E : QE), sp__law_same xs S Q E → xs.length = 2 := SpB.len fun _ => rfl
theorem mono__law_same : ∀ (xs : List Pv) (S : Sto) (Q Q' : QV) (E E' : QE), (∀ p S', Q p S' → Q' p S') → (∀ C S', E C S' → E' C S') → sp__law_same xs S Q E → sp__law_same xs S Q' E' := SpB.mono
theorem ex__law_same {xs : List Pv} {S0 : Sto} {Q : QV} {Ep : QE} : sp__law_same xs S0 Q Ep → b__law_same (endD Q) (st0 2 xs) S0 := SpB.ex fun ⟨x, y⟩ S Q h q => by
  refine ⟨h.1, fun z e => ⟨h.2, fun z' e' => Out.id ?_⟩⟩
  subst e e'
  exact q

def sp__law_code : PSp := SpS (fun (a : Addr × Nat) => [.ref a.1, .int a.2]) (fun a S => (∃ m, S a.1 = some m ∧ St3 m) ∧ a.2 ≤ 9) fun a S p S' => ∃ ds m, (∀ d ∈ ds, d < 4) ∧ ds.length ≤ a.2 ∧ St3 m ∧ p = .str (cdS ds) ∧ S' = put S a.1 m
def b__law_code : PFS :=
  gRet (fMs oJoin (fC (.str "")) (fLc (fRng1 (fCons (fCall sp__law_choice [] noE (fCons (fVar 0) (fCons (f2 oAdd (fVar 1) (fC (.int 1))) (fNil)))) (fNil))) (.nm 2) (fYes) (f2 oIx (fC (.str "0123")) (fCall sp__law_choice [] noE (fCons (fVar 0) (fCons (fC (.int 4)) (fNil))))) [2]))
theorem len__law_code : ∀ (xs : List Pv) (S : Sto) (Q : QV) (E : QE), sp__law_code xs S Q E → xs.length = 2 := SpS.len fun _ => rfl
theorem mono__law_code : ∀ (xs : List Pv) (S : Sto) (Q Q' : QV) (E E' : QE), (∀ p S', Q p S' → Q' p S') → (∀ C S', E C S' → E' C S') → sp__law_code xs S Q E → sp__law_code xs S Q' E' := SpS.mono
theorem ex__law_code {xs : List Pv} {S0 : Sto} {Q : QV} {Ep : QE} : sp__law_code xs S0 Q Ep → b__law_code (endD Q) (st0 3 xs) S0 := SpS.ex fun ⟨l, n⟩ S Q ⟨hm, hn⟩ q => by
  have hn : n ≤ 9 := hn
  refine ⟨rfl, (l, (n : Int) + 1), rfl, ⟨hm, show (0 : Int) < (n : Int) + 1 by omega, show (n : Int) + 1 < 2 ^ 64 by omega⟩, ?_⟩
  rintro _ _ ⟨r, m1, r0, r1, s1, rfl, rfl⟩
  have r1 : r < (n : Int) + 1 := r1
  refine ⟨⟨by omega, by omega⟩, ?_⟩
  try simp only [st0, wipeP, List.set_cons_zero, List.set_cons_succ, List.map_cons, List.map_nil, List.cons_append, List.nil_append, List.replicate_succ, List.replicate_zero, List.length_cons, List.length_nil, Nat.reduceSub, Nat.reduceAdd]
  intro D hD
  have hlD : l ≠ D := fun e => by rw [← e, put_same] at hD; cases hD
  refine lcW_indN (fun acc S2 => ∃ ds m, acc = ds.map fg ∧ (∀ d ∈ ds, d < 4) ∧ St3 m ∧ S2 = put S l m) (fun _ => trivial) (fun _ => True) r.toNat (Nat.le_trans (show r.toNat ≤ 9 by omega) (by decide)) _ [] _ ?_ (fun _ _ => trivial) hD ⟨[], m1, rfl, by simp, s1, rfl⟩ ?_ ?_
  · unfold rngP
    simp
  · rintro acc S2 hlen hD2 ⟨ds, m, rfl, hd, sm, rfl⟩
    have hl : ds.length ≤ n := by
      rw [List.length_map] at hlen
      omega
    show match (some (ds.map fg)).bind allS with | some ys => (ys.map (·.length)).sum + ys.length * (Str.ofString "").length ≤ 16777216 ∧ Out Q (.str (Txt.join (Str.ofString "") ys)) (put S l m) | none => False
    rw [Option.bind_some, allS_fg]
    refine ⟨?_, Out.id (q _ _ ⟨ds, m, hd, hl, sm, ?_, rfl⟩)⟩
    · rw [List.map_map]
      have : ((ds.map ((fun x => x.length) ∘ fun d => (⟨#[d + 48]⟩ : Str))).sum) = ds.length := by
        clear hlen hd hl
        induction ds with
        | nil => rfl
        | cons d ds ih => rw [List.map_cons, List.sum_cons, ih, List.length_cons]; show 1 + ds.length = _; omega
      rw [this, show (Str.ofString "").length = 0 from rfl]
      omega
    · rw [join_cd]
  · rintro x - acc S2 k hD2 ⟨ds, m, rfl, hd, sm, rfl⟩ hk
    refine ⟨_, rfl, ?_⟩
    refine ⟨(l, 4), rfl, ⟨⟨m, by rw [put_ne hlD]; exact put_same, sm⟩, (by decide : (0 : Int) < 4), (by decide : (4 : Int) < 2 ^ 64)⟩, ?_⟩
    rintro _ _ ⟨j, m2, j0, j1, s2, rfl, rfl⟩
    obtain ⟨d, rfl⟩ : ∃ d : Nat, j = (d : Int) := ⟨j.toNat, by omega⟩
    have hd4 : d < 4 := by
      have : (d : Int) < 4 := j1
      omega
    conv => whnf
    rw [at_fig hd4]
    refine ⟨by decide +kernel, hk _ _ ?_ ⟨ds ++ [d], m2, by simp, ?_, s2, ?_⟩⟩
    · show put (put (put S l m) D (.lst (ds.map fg))) l m2 D = _
      rw [put_ne (Ne.symm hlD)]
      exact put_same
    · intro e he
      rcases List.mem_append.mp he with h | h
      · exact hd e h
      · have : e = d := by simpa using h
        omega
    · show del (put (put (put S l m) D (.lst (ds.map fg))) l m2) D = _
      rw [put_comm (Ne.symm hlD), del_put (by rw [put_put]; rw [put_ne (Ne.symm hlD)] at hD2 ⊢; exact hD2), put_put]

def sp__law_codes : PSp := SpS (fun (a : Addr) => [.ref a, .int 4]) (fun a S => ∃ m, S a = some m ∧ St3 m) fun a S p S' => ∃ L m, CsOk L ∧ (∀ c ∈ L, c.length ≤ 4) ∧ L.length ≤ 16 ∧ St3 m ∧ p = .tup (cvs L) ∧ S' = put S a m
def b__law_codes : PFS :=
  gSeq (gSet 2 (fN oLst (fNil)))
    (gSeq (gBeg [3, 4] (gFor (fRng1 (fCons (fCall sp__law_choice [] noE (fCons (fVar 0) (fCons (fC (.int 13)) (fNil)))) (fNil))) (.nm 3) (gEnd [3, 4] (gSeq (gSet 4 (fCall sp__law_code [] noE (fCons (fVar 0) (fCons (f2 oAdd (fC (.int 1)) (fCall sp__law_choice [] noE (fCons (fVar 0) (fCons (fVar 1) (fNil))))) (fNil)))))
    (gIf (fOr (fBV (f2 oNe (fVar 4) (fC (.str "")))) (fBV (f2 oEq (fCall sp__law_choice [] noE (fCons (fVar 0) (fCons (fC (.int 6)) (fNil)))) (fC (.int 0))))) (gSet 2 (f2 oAdd (fLc (fIt (fVar 2)) (.nm 6) (fAnd (fNot (fBV (fMs oStarts (fVar 6) (fVar 4)))) (fNot (fBV (fMs oStarts (fVar 4) (fVar 6))))) (fVar 6) [6]) (fN oLst (fCons (fVar 4) (fNil))))) (gNext))))))
    (gSeq (gBeg [3, 5] (gFor (fRng1 (fCons (fCall sp__law_choice [] noE (fCons (fVar 0) (fCons (fC (.int 2)) (fNil)))) (fNil))) (.nm 3) (gEnd [3, 5] (gSeq (gSet 5 (fCall sp__law_code [] noE (fCons (fVar 0) (fCons (f2 oSub (fVar 1) (fC (.int 1))) (fNil)))))
    (gSeq (gSet 2 (fLc (fIt (fVar 2)) (.nm 6) (fAnd (fNot (fBV (fMs oStarts (fVar 6) (fVar 5)))) (fNot (fBV (fMs oStarts (fVar 5) (fVar 6))))) (fVar 6) [6]))
    (gSet 2 (f2 oAdd (fVar 2) (fLc (fIt (fC (.str "0123"))) (.nm 7) (fYes) (f2 oAdd (fVar 5) (fVar 7)) [7]))))))))
    (gRet (fN oTuple (fCons (fN oSorted (fCons (fVar 2) (fNil))) (fNil))))))
theorem len__law_codes : ∀ (xs : List Pv) (S : Sto) (Q : QV) (E : QE), sp__law_codes xs S Q E → xs.length = 2 := SpS.len fun _ => rfl
theorem mono__law_codes : ∀ (xs : List Pv) (S : Sto) (Q Q' : QV) (E E' : QE), (∀ p S', Q p S' → Q' p S') → (∀ C S', E C S' → E' C S') → sp__law_codes xs S Q E → sp__law_codes xs S Q' E' := SpS.mono
def C5 (c : Cd) : Prop := (∀ d ∈ c, d < 4) ∧ c.length ≤ 4
theorem if_two {c : PFB} {A : PFS} {D : Ends'} {ρ : Env'} {S : Sto} (I J : Sto → Prop) (hA : ∀ S', I S' → A D ρ S') (hB : ∀ S', J S' → D.nx ρ S') (h : ∀ kk : Bool → Sto → Prop, (∀ S', I S' → kk true S') → (∀ S', J S' → kk false S') → c ρ S kk) : gIf c A gNext D ρ S := h _ hA hB
theorem pre_B {c x : Cd} : preS (cdS c) (cdS x) = pB c x := preS_cd c x
theorem far_wk {gd : Sto → Prop} {i : Nat} {te : PF} {tt : PFB} {ρ : Env'} {Q : List Pv → Sto → Prop} {S : Sto} (L : List Cd) (c : Cd) (hl : L.length ≤ 2000) (hg : ∀ S', gd S') (h : ∀ x S', ∃ ρ2, bindT S' (.nm i) (cdK x) ρ = some ρ2 ∧ (∀ kk : Bool → Sto → Prop, kk (!pB c x && !pB x c) S' → tt ρ2 S' kk) ∧ ∀ k : QV, k (cdK x) S' → te ρ2 S' k) (q : Q (cvs (farC c L)) S) : ∀ D, S D = none → lcW gd (.nm i) tt te ρ D Q (cvs L) [] S :=
  lc_filter L cdK (fun x => !pB c x && !pB x c) cdK rfl (sz2 (by omega)) (fun S' _ => hg S') (fun x _ S' _ => by
    obtain ⟨ρ2, h1, h2, h3⟩ := h x S'
    exact ⟨ρ2, h1, h2, fun _ => h3⟩) q
set_option maxHeartbeats 1000000 in
theorem ex__law_codes {xs : List Pv} {S0 : Sto} {Q : QV} {Ep : QE} : sp__law_codes xs S0 Q Ep → b__law_codes (endD Q) (st0 8 xs) S0 := SpS.ex fun l S Q hm q => by
  refine ⟨lz rfl, ?_⟩
  try simp only [st0, wipeP, List.set_cons_zero, List.set_cons_succ, List.map_cons, List.map_nil, List.cons_append, List.nil_append, List.replicate_succ, List.replicate_zero, List.length_cons, List.length_nil, Nat.reduceSub, Nat.reduceAdd]
  refine ⟨(l, 13), rfl, ⟨hm, (by decide : (0 : Int) < 13), (by decide : (13 : Int) < 2 ^ 64)⟩, ?_⟩
  rintro _ _ ⟨r, m1, r0, r1, s1, rfl, rfl⟩
  have r1 : r < 13 := r1
  have k0 := Pk.new (S := S) (l := l) s1
  refine ⟨⟨by omega, by omega⟩, ?_⟩
  try simp only [st0, wipeP, List.set_cons_zero, List.set_cons_succ, List.map_cons, List.map_nil, List.cons_append, List.nil_append, List.replicate_succ, List.replicate_zero, List.length_cons, List.length_nil, Nat.reduceSub, Nat.reduceAdd]
  generalize put S l m1 = S1 at k0 ⊢
  refine forW_acc (fun (j : Nat) => .int ((0 : Int) + j)) (List.range (r - 0).toNat) (fun pre ρ S2 => ∃ L, ρ = [some (.ref l), some (.int 4), some (.lst (cvs L)), none, none, none, none, none] ∧ Pk St3 S l S2 ∧ PwN L ∧ (∀ c ∈ L, C5 c) ∧ L.length ≤ pre.length) ?_ ?_ [] (List.range (r - 0).toNat) _ _ rfl ⟨[], rfl, k0, List.Pairwise.nil, (fun c h => by cases h), Nat.le_refl _⟩
  · rintro _ S2 ⟨L, rfl, k1, pw, h5, hl⟩
    rw [List.length_range] at hl
    refine ⟨trivial, ?_⟩
    try simp only [st0, wipeP, List.set_cons_zero, List.set_cons_succ, List.map_cons, List.map_nil, List.cons_append, List.nil_append, List.replicate_succ, List.replicate_zero, List.length_cons, List.length_nil, Nat.reduceSub, Nat.reduceAdd]
    refine ⟨(l, 2), rfl, ⟨k1.pen, (by decide : (0 : Int) < 2), (by decide : (2 : Int) < 2 ^ 64)⟩, ?_⟩
    rintro _ _ ⟨r2, m2, r20, r21, s2, rfl, rfl⟩
    have r21 : r2 < 2 := r21
    have k2 := k1.draw s2
    refine ⟨⟨by omega, by omega⟩, ?_⟩
    try simp only [st0, wipeP, List.set_cons_zero, List.set_cons_succ, List.map_cons, List.map_nil, List.cons_append, List.nil_append, List.replicate_succ, List.replicate_zero, List.length_cons, List.length_nil, Nat.reduceSub, Nat.reduceAdd]
    generalize put S2 l m2 = S2 at k2 ⊢
    refine forW_acc (fun (j : Nat) => .int ((0 : Int) + j)) (List.range (r2 - 0).toNat) (fun pre ρ S2 => ∃ L, ρ = [some (.ref l), some (.int 4), some (.lst (cvs L)), none, none, none, none, none] ∧ Pk St3 S l S2 ∧ PwN L ∧ (∀ c ∈ L, C5 c) ∧ L.length ≤ 12 + 4 * pre.length) ?_ ?_ [] (List.range (r2 - 0).toNat) _ _ rfl ⟨L, rfl, k2, pw, h5, by show L.length ≤ 12 + 4 * 0; omega⟩
    · rintro _ S3 ⟨L, rfl, k3, pw, h5, hl⟩
      rw [List.length_range] at hl
      have hv : ∀ c ∈ L, Vd c := fun c hc => ⟨Nat.le_trans (h5 c hc).2 (by decide), (h5 c hc).1⟩
      refine ⟨trivial, ?_⟩
      try simp only [st0, wipeP, List.set_cons_zero, List.set_cons_succ, List.map_cons, List.map_nil, List.cons_append, List.nil_append, List.replicate_succ, List.replicate_zero, List.length_cons, List.length_nil, Nat.reduceSub, Nat.reduceAdd]
      conv => whnf
      refine ⟨by rw [strs_cvs]; exact sortOk_str _, ?_⟩
      show Out Q (.tup (sortP (cvs L))) S3
      rw [sort_cvs]
      refine k3.out fun m g => q _ _ ⟨sortC L, m, CsOk.sort hv pw.nd pw.anti, fun c hc => (h5 c (sortC_mem.mp hc)).2, ?_, g, rfl, rfl⟩
      rw [show (sortC L).length = L.length from List.length_mergeSort _]
      omega
    · rintro pre j post e kk hk _ S3 ⟨L, rfl, k3, pw, h5, hl⟩
      have hpl : pre.length < 2 := by
        have := congrArg List.length e
        simp only [List.length_append, List.length_cons, List.length_range] at this
        omega
      refine ⟨trivial, ?_⟩
      try simp only [st0, wipeP, List.set_cons_zero, List.set_cons_succ, List.map_cons, List.map_nil, List.cons_append, List.nil_append, List.replicate_succ, List.replicate_zero, List.length_cons, List.length_nil, Nat.reduceSub, Nat.reduceAdd]
      refine ⟨(l, 3), rfl, ⟨k3.pen, (by decide : 3 ≤ 9)⟩, ?_⟩
      rintro _ _ ⟨c, m3, h4, hcl, s3, rfl, rfl⟩
      have hcl : c.length ≤ 3 := hcl
      have k4 := k3.draw s3
      generalize put S3 l m3 = S4 at k4 ⊢
      try simp only [st0, wipeP, List.set_cons_zero, List.set_cons_succ, List.map_cons, List.map_nil, List.cons_append, List.nil_append, List.replicate_succ, List.replicate_zero, List.length_cons, List.length_nil, Nat.reduceSub, Nat.reduceAdd]
      refine far_wk L c (by omega) (fun _ => trivial) (fun x S' => ⟨_, rfl, fun kk hk => ⟨rfl, cnd_i (b := !preS (cdS c) (cdS x)) (fun e => ?_) (fun e => ?_)⟩, fun k hk => hk⟩) ?_
      · rw [pre_B] at e
        rw [e, Bool.true_and, ← pre_B] at hk
        exact ⟨rfl, hk⟩
      · rw [pre_B] at e
        rw [e, Bool.false_and] at hk
        exact hk
      have fl := far_len (c := c) (L := L)
      conv => whnf
      refine lc_map kidsC fg (fun s => cdK (c ++ [s])) fig_chars (by decide) (fun _ _ => trivial) (fun s hs S' _ => ⟨_, rfl, fun k2 hk2 => ?_⟩) ?_
      · refine ⟨by rw [cd_len]; exact sz2 (by show c.length + 1 ≤ _; omega), ?_⟩
        rw [cd_kid]
        exact hk2
      conv => whnf
      refine ⟨by rw [List.length_map]; exact sz2 (by show (farC c L).length + 4 ≤ _; omega), ?_⟩
      rw [show cvs (farC c L) ++ (kidsC.map fun s => cdK (c ++ [s])) = cvs (farC c L ++ kidsC.map fun s => c ++ [s]) by unfold cvs; rw [List.map_append, List.map_map]; rfl]
      refine hk _ _ ⟨farC c L ++ kidsC.map fun s => c ++ [s], rfl, k4, pw.kids c, fun x hx => ?_, ?_⟩
      · rcases List.mem_append.mp hx with z | z
        · exact h5 x (far_mem.mp z).1
        · obtain ⟨s, hs, rfl⟩ := List.mem_map.mp z
          refine ⟨fun d hd => ?_, by rw [List.length_append, List.length_singleton]; omega⟩
          rcases List.mem_append.mp hd with z | z
          · exact h4 d z
          · rw [List.mem_singleton.mp z]; exact kid_lt hs
      · rw [List.length_append, List.length_append]
        show (farC c L).length + 4 ≤ 12 + 4 * (pre.length + 1)
        omega
  rintro pre j post e kk hk _ S2 ⟨L, rfl, k1, pw, h5, hl⟩
  have hpl : pre.length < 12 := by
    have := congrArg List.length e
    simp only [List.length_append, List.length_cons, List.length_range] at this
    omega
  refine ⟨trivial, ?_⟩
  try simp only [st0, wipeP, List.set_cons_zero, List.set_cons_succ, List.map_cons, List.map_nil, List.cons_append, List.nil_append, List.replicate_succ, List.replicate_zero, List.length_cons, List.length_nil, Nat.reduceSub, Nat.reduceAdd]
  refine ⟨(l, 4), rfl, ⟨k1.pen, (by decide : (0 : Int) < 4), (by decide : (4 : Int) < 2 ^ 64)⟩, ?_⟩
  rintro _ _ ⟨w, m2, w0, w1, s2, rfl, rfl⟩
  have w1 : w < 4 := w1
  obtain ⟨w, rfl⟩ : ∃ n : Nat, w = (n : Int) := ⟨w.toNat, by omega⟩
  have k2 := k1.draw s2
  refine ⟨(l, 1 + w), ?_, ⟨k2.pen, (show 1 + w ≤ 9 by omega)⟩, ?_⟩
  · show [Pv.ref l, .int (1 + (w : Int))] = [Pv.ref l, .int ((1 + w : Nat) : Int)]
    rw [show ((1 + w : Nat) : Int) = 1 + (w : Int) by omega]
  rintro _ _ ⟨c, m3, h4, hcl, s3, rfl, rfl⟩
  have hcl : c.length ≤ 1 + w := hcl
  have c5 : C5 c := ⟨h4, by omega⟩
  have k3 := k2.draw s3
  generalize put (put S2 l m2) l m3 = S3 at k3 ⊢
  try simp only [st0, wipeP, List.set_cons_zero, List.set_cons_succ, List.map_cons, List.map_nil, List.cons_append, List.nil_append, List.replicate_succ, List.replicate_zero, List.length_cons, List.length_nil, Nat.reduceSub, Nat.reduceAdd]
  refine if_two (fun S' => Pk St3 S l S') (fun S' => Pk St3 S l S') ?_ ?_ ?_
  · intro S4 k4
    try simp only [st0, wipeP, List.set_cons_zero, List.set_cons_succ, List.map_cons, List.map_nil, List.cons_append, List.nil_append, List.replicate_succ, List.replicate_zero, List.length_cons, List.length_nil, Nat.reduceSub, Nat.reduceAdd]
    refine far_wk L c (by omega) (fun _ => trivial) (fun x S' => ⟨_, rfl, fun kk hk => ⟨rfl, cnd_i (b := !preS (cdS c) (cdS x)) (fun e => ?_) (fun e => ?_)⟩, fun k hk => hk⟩) ?_
    · rw [pre_B] at e
      rw [e, Bool.true_and, ← pre_B] at hk
      exact ⟨rfl, hk⟩
    · rw [pre_B] at e
      rw [e, Bool.false_and] at hk
      exact hk
    have fl := far_len (c := c) (L := L)
    refine ⟨lz rfl, ?_⟩
    conv => whnf
    refine ⟨by rw [List.length_map]; exact sz2 (by show (farC c L).length + 1 ≤ _; omega), ?_⟩
    rw [show cvs (farC c L) ++ [Pv.str (cdS c)] = cvs (farC c L ++ [c]) by unfold cvs; rw [List.map_append]; rfl]
    refine hk _ _ ⟨farC c L ++ [c], rfl, k4, pw.add c, fun x hx => ?_, ?_⟩
    · rcases List.mem_append.mp hx with z | z
      · exact h5 x (far_mem.mp z).1
      · rw [List.mem_singleton.mp z]; exact c5
    · rw [List.length_append, List.length_append]
      show (farC c L).length + 1 ≤ pre.length + 1
      omega
  · intro S4 k4
    refine hk _ _ ⟨L, rfl, k4, pw, h5, by rw [List.length_append]; omega⟩
  · intro kc ht hf
    refine cnd_i (b := !decide (cdS c = Str.ofString "")) (fun e => ?_) (fun e => ?_)
    · exact ht _ k3
    refine ⟨(l, 6), rfl, ⟨k3.pen, (by decide : (0 : Int) < 6), (by decide : (6 : Int) < 2 ^ 64)⟩, ?_⟩
    rintro _ _ ⟨z, m4, z0, z1, s4, rfl, rfl⟩
    have k4 := k3.draw s4
    show kc (decide (z = 0)) _
    cases decide (z = 0) with
    | true => exact ht _ k4
    | false => exact hf _ k4

def sp__law_fine : PSp := SpS (fun (a : List Cd × Nat) => [.tup (cvs a.1), .int (a.2 : Nat)]) (fun a _ => a.2 ≤ 5 ∧ (∀ c ∈ a.1, Up a.2 c) ∧ a.1.length ≤ 40) fun a S p S' => ∃ F D, FineOk a.2 a.1 F ∧ S D = none ∧ p = .ref D ∧ S' = put S D (.dct (cvs F) (trs F))
def b__law_fine : PFS :=
  gSeq (gPar 2 3 (fCons (fDictT) (fCons (fN oListT (fCons (fVar 0) (fNil))) (fNil))))
    (gSeq (gBeg [4] (gWhile (fBV (f2 oNe (fVar 3) (fN oLst (fNil)))) (gEnd [4] (gSeq (gSet 4 (fMeth0 ckL oPop (fVar 3)))
    (gIf (fBV (f2 oEq (fN oLen (fCons (fVar 4) (fNil))) (fVar 1))) (gPutG (fC (.bl true)) (fVar 2) (fVar 4)) (gDrop (fMeth ckL oExtend (fVar 3) (fCons (fLc (fIt (fC (.str "0123"))) (.nm 5) (fYes) (f2 oAdd (fVar 4) (fVar 5)) [5]) (fNil)))))))))
    (gRet (fVar 2)))
theorem len__law_fine : ∀ (xs : List Pv) (S : Sto) (Q : QV) (E : QE), sp__law_fine xs S Q E → xs.length = 2 := SpS.len fun _ => rfl
theorem mono__law_fine : ∀ (xs : List Pv) (S : Sto) (Q Q' : QV) (E E' : QE), (∀ p S', Q p S' → Q' p S') → (∀ C S', E C S' → E' C S') → sp__law_fine xs S Q E → sp__law_fine xs S Q' E' := SpS.mono
theorem pw_le {n : Nat} (h : n ≤ 5) : 4 ^ n ≤ 1024 := Nat.le_trans (Nat.pow_le_pow_right (by decide) h) (by decide)
theorem w1_le {k n : Nat} (hn : n ≤ 5) (hk : k ≤ n) : w1 k ≤ 1365 := by
  have : k = 0 ∨ k = 1 ∨ k = 2 ∨ k = 3 ∨ k = 4 ∨ k = 5 := by omega
  rcases this with rfl | rfl | rfl | rfl | rfl | rfl <;> decide
theorem ws_le {n : Nat} (hn : n ≤ 5) : ∀ L : List Cd, wS n L ≤ 1365 * L.length
  | [] => Nat.zero_le _
  | c :: L => by
    have h1 := ws_le hn L
    have h2 := w1_le (k := n - c.length) hn (by omega)
    unfold wS at *
    rw [List.map_cons, List.sum_cons, List.length_cons]
    omega
theorem cvs_app (a b : List Cd) : cvs (a ++ b) = cvs a ++ cvs b := List.map_append
theorem last_split {L : List Cd} (h : L ≠ []) : ∃ P c, L = P ++ [c] := ⟨L.dropLast, L.getLast h, (List.dropLast_concat_getLast h).symm⟩
theorem cvs_emp {L : List Cd} : (L.map cdK).isEmpty = L.isEmpty := List.isEmpty_map
theorem top_lst {S : Sto} {E : Addr} {xs : List Pv} (h : S E = some (.lst xs)) : top S (.ref E) = .lst xs := by simp [top, h]
theorem ne_nil {S : Sto} {E : Addr} {L : List Cd} {Q : QV} (h : S E = some (.lst (cvs L))) (hv : ∀ c ∈ L, Vd c) (q : Q (.bl (!L.isEmpty)) S) : oNe (.ref E) (.lst []) S Q := by
  unfold oNe
  rw [if_neg (by simp [scalP])]
  rw [top_lst h]
  refine ⟨⟨okD_cvs hv, rfl⟩, ?_⟩
  show Q (.bl (!PyData.eqv (.list (toDs (cvs L))) (.list []))) S
  rw [eqv_nil, toDs_map, List.isEmpty_map, List.isEmpty_map]
  exact q
set_option maxHeartbeats 1000000 in
theorem ex__law_fine {xs : List Pv} {S0 : Sto} {Q : QV} {Ep : QE} : sp__law_fine xs S0 Q Ep → b__law_fine (endD Q) (st0 6 xs) S0 := SpS.ex fun ⟨L, n⟩ S Q ⟨hn, hu, hl⟩ q => by
  have hn : n ≤ 5 := hn
  have hu : ∀ c ∈ L, Up n c := hu
  have hl : L.length ≤ 40 := hl
  have q : ∀ p S', (∃ F D, FineOk n L F ∧ S D = none ∧ p = .ref D ∧ S' = put S D (.dct (cvs F) (trs F))) → Q p S' := q
  intro D hD
  conv => whnf
  intro E hE
  obtain ⟨hE, hDE⟩ := none_two hE
  try simp only [st0, wipeP, List.set_cons_zero, List.set_cons_succ, List.map_cons, List.map_nil, List.cons_append, List.nil_append, List.replicate_succ, List.replicate_zero, List.length_cons, List.length_nil, Nat.reduceSub, Nat.reduceAdd]
  refine ⟨fun m ρ S' => ∃ Lf F x4, ρ = [some (.tup (cvs L)), some (.int (n : Nat)), some (.ref D), some (.ref E), x4, none] ∧ S' = put (put S D (.dct (cvs F) (trs F))) E (.lst (cvs Lf)) ∧ FineI n L Lf F ∧ m = wS n Lf ∧ m ≤ 100000, ⟨wS n L, L, [], none, rfl, rfl, FineI.begin hu, rfl, ?_⟩, ?_⟩
  · have := ws_le hn L
    omega
  rintro m _ _ ⟨Lf, F, x4, rfl, rfl, hI, rfl, hm⟩
  have hll := ws_len n Lf
  have hFl : F.length ≤ 1024 := Nat.le_trans (fn_len hI.nd fun d hd => (hI.sub d hd).1) (pw_le hn)
  have hv : ∀ c ∈ Lf, Vd c := fun c hc => ⟨Nat.le_trans (hI.up c hc).1 (by omega), (hI.up c hc).2⟩
  refine ⟨lz rfl, ne_nil put_same hv ?_⟩
  refine cnd_i (b := !Lf.isEmpty) (fun e => ?_) (fun e => ?_)
  · obtain ⟨P, c, rfl⟩ := last_split (L := Lf) (fun z => by rw [z] at e; cases e)
    have hc9 := (hv c (by simp)).1
    refine ⟨by simp [ckL, put_same], ?_⟩
    conv => whnf
    rw [put_same]
    refine ⟨cdK c, by simp, ?_⟩
    rw [cvs_app, show (cvs P ++ cvs [c]).dropLast = cvs P from List.dropLast_concat, put_put]
    rw [ws_app, ws_one] at hm hll ⊢
    conv => whnf
    rw [show lenP _ (cdK c) = some c.length from len_cd hc9]
    refine cnd_i (b := decide (((c.length : Nat) : Int) = (n : Nat))) (fun e2 => ?_) (fun e2 => ?_)
    · have e2 : c.length = n := by have := of_decide_eq_true e2; omega
      conv => whnf
      rw [put_ne hDE, put_same]
      refine ⟨rfl, ky_cvs F, by rw [List.length_map]; exact Nat.lt_of_le_of_lt hFl (by decide), wS n P, ?_, P, addC F c, _, rfl, ?_, hI.put e2, rfl, by omega⟩
      · have := w1_pos (n - c.length)
        omega
      · rw [show putD (cvs F) (trs F) (cdK c) (.bl true) = _ from putD_c _ _, put_comm hDE, put_put]
        exact put_comm (Ne.symm hDE)
    · have e2 : c.length < n := by
        have h1 := (hI.up c (by simp)).1
        have h2 := of_decide_eq_false e2
        omega
      have hk := ws_kids e2
      rw [ws_one] at hk
      refine ⟨by simp [ckL, put_same], ?_⟩
      conv => whnf
      refine lc_map kidsC fg (fun s => cdK (c ++ [s])) fig_chars (by decide) (fun _ _ => trivial) (fun s hs S' _ => ⟨_, rfl, fun k2 hk2 => ?_⟩) ?_
      · refine ⟨by rw [cd_len]; exact sz2 (by show c.length + 1 ≤ _; omega), ?_⟩
        rw [cd_kid]
        exact hk2
      conv => whnf
      rw [put_same]
      refine ⟨by rw [List.length_map, List.length_map]; rw [List.length_append, List.length_singleton] at hll; exact sz3 (by show P.length + 4 ≤ _; omega), wS n (P ++ kidL c), ?_, P ++ kidL c, F, _, rfl, ?_, hI.kids e2, rfl, ?_⟩
      · rw [ws_app]; omega
      · rw [put_put, cvs_app]
        rfl
      · rw [ws_app]; omega
  · obtain rfl : Lf = [] := by simpa using e
    refine Out.less (S' := put S D (.dct (cvs F) (trs F))) (fun z o hz => ?_) (q _ _ ⟨F, D, hI.fin, hD, rfl, rfl⟩)
    have h2 : z ≠ E := fun e => by rw [e, put_ne (Ne.symm hDE), hE] at hz; cases hz
    rw [put_ne h2]
    exact hz

def sp__law_fewest : PSp := SpS (fun (a : Addr × List Cd × Nat) => [.ref a.1, .int (a.2.2 : Nat)]) (fun a S => S a.1 = some (.dct (cvs a.2.1) (trs a.2.1)) ∧ a.2.2 ≤ 5 ∧ a.2.1.Nodup ∧ ∀ d ∈ a.2.1, Fn a.2.2 d) fun a S p S' => ∃ M, IsM (fun d => d.take a.2.2 ∈ a.2.1) M ∧ M.length ≤ 2000 ∧ p = .tup (cvs M) ∧ S = S'
def b__law_fewest : PFS :=
  gSeq (gPar 2 3 (fCons (fN oLstT (fNil)) (fCons (fN oLstT (fCons (fC (.str "")) (fNil))) (fNil))))
    (gSeq (gBeg [4, 5] (gWhile (fBV (f2 oNe (fVar 3) (fN oLst (fNil)))) (gEnd [4, 5] (gSeq (gSet 4 (fMeth0 ckL oPop (fVar 3)))
    (gSeq (gSet 5 (fN oLen (fCons (fLockD 0 (fLc (fKeysL (fVar 0)) (.nm 6) (fBV (fMs oStarts (fVar 6) (fVar 4))) (fC (.int 1)) [6])) (fNil))))
    (gIf (fBV (f2 oEq (fVar 5) (f2 oShl (fC (.int 1)) (f2 oMul (fC (.int 2)) (f2 oSub (fVar 1) (fN oLen (fCons (fVar 4) (fNil)))))))) (gDrop (fMeth ckL oAppend (fVar 2) (fCons (fVar 4) (fNil)))) (gIf (fBV (f2 oGt (fVar 5) (fC (.int 0)))) (gDrop (fMeth ckL oExtend (fVar 3) (fCons (fLc (fIt (fC (.str "0123"))) (.nm 7) (fYes) (f2 oAdd (fVar 4) (fVar 7)) [7]) (fNil)))) (gNext))))))))
    (gRet (fN oTuple (fCons (fN oSorted (fCons (fVar 2) (fNil))) (fNil)))))
theorem len__law_fewest : ∀ (xs : List Pv) (S : Sto) (Q : QV) (E : QE), sp__law_fewest xs S Q E → xs.length = 2 := SpS.len fun _ => rfl
theorem mono__law_fewest : ∀ (xs : List Pv) (S : Sto) (Q Q' : QV) (E E' : QE), (∀ p S', Q p S' → Q' p S') → (∀ C S', E C S' → E' C S') → sp__law_fewest xs S Q E → sp__law_fewest xs S Q' E' := SpS.mono
theorem pow_shl (n k : Nat) (h : k ≤ n) : (1 : Int) * 2 ^ ((2 : Int) * ((n : Int) - (k : Int))).toNat = ((4 ^ (n - k) : Nat) : Int) := by
  have e : ((2 : Int) * ((n : Int) - (k : Int))).toNat = 2 * (n - k) := by omega
  rw [e, Int.one_mul, show (4 : Nat) = 2 ^ 2 from rfl, ← Nat.pow_mul]
  push_cast
  rfl
set_option maxHeartbeats 1000000 in
theorem ex__law_fewest {xs : List Pv} {S0 : Sto} {Q : QV} {Ep : QE} : sp__law_fewest xs S0 Q Ep → b__law_fewest (endD Q) (st0 8 xs) S0 := SpS.ex fun ⟨G, F, n⟩ S Q ⟨hG, hn, nd, hF⟩ q => by
  have hG : S G = some (.dct (cvs F) (trs F)) := hG
  have hn : n ≤ 5 := hn
  have nd : F.Nodup := nd
  have hF : ∀ d ∈ F, Fn n d := hF
  have q : ∀ p S', (∃ M, IsM (fun d => d.take n ∈ F) M ∧ M.length ≤ 2000 ∧ p = .tup (cvs M) ∧ S = S') → Q p S' := q
  conv => whnf
  refine ⟨lz rfl, ?_⟩
  intro D hD
  refine ⟨lz rfl, ?_⟩
  intro E hE
  obtain ⟨hE, hDE⟩ := none_two hE
  have hGD : G ≠ D := fun e => by rw [e, hD] at hG; cases hG
  have hGE : G ≠ E := fun e => by rw [e, hE] at hG; cases hG
  try simp only [st0, wipeP, List.set_cons_zero, List.set_cons_succ, List.map_cons, List.map_nil, List.cons_append, List.nil_append, List.replicate_succ, List.replicate_zero, List.length_cons, List.length_nil, Nat.reduceSub, Nat.reduceAdd]
  refine ⟨fun m ρ S' => ∃ Lf Fd x4 x5, ρ = [some (.ref G), some (.int (n : Nat)), some (.ref D), some (.ref E), x4, x5, none, none] ∧ S' = put (put S D (.lst (cvs Fd))) E (.lst (cvs Lf)) ∧ FewI n F Lf Fd ∧ m = wS n Lf ∧ wS n Lf + Fd.length ≤ 1400, ⟨wS n [[]], [[]], [], none, none, rfl, rfl, FewI.begin n F, rfl, ?_⟩, ?_⟩
  · have := ws_le hn [[]]
    simp at this
    simp
    omega
  rintro m _ _ ⟨Lf, Fd, x4, x5, rfl, rfl, hI, rfl, hm⟩
  have hll := ws_len n Lf
  have hFl : F.length ≤ 1024 := Nat.le_trans (fn_len nd hF) (pw_le hn)
  have hv : ∀ c ∈ Lf, Vd c := fun c hc => ⟨Nat.le_trans (hI.up c (List.mem_append.mpr (.inl hc))).1 (by omega), (hI.up c (List.mem_append.mpr (.inl hc))).2⟩
  refine ⟨lz rfl, ne_nil put_same hv ?_⟩
  refine cnd_i (b := !Lf.isEmpty) (fun e => ?_) (fun e => ?_)
  · obtain ⟨P, c, rfl⟩ := last_split (L := Lf) (fun z => by rw [z] at e; cases e)
    have hc9 := (hv c (by simp)).1
    have hcu := hI.up c (by simp)
    have hcn := hcu.1
    refine ⟨by simp [ckL, put_same], ?_⟩
    conv => whnf
    rw [put_same]
    refine ⟨cdK c, by simp, ?_⟩
    rw [cvs_app, show (cvs P ++ cvs [c]).dropLast = cvs P from List.dropLast_concat, put_put]
    rw [ws_app, ws_one] at hm hll ⊢
    conv => whnf
    have hB : put (put S D (.lst (cvs Fd))) E (.lst (cvs P)) G = some (.dct (cvs F) (trs F)) := by rw [put_ne hGE, put_ne hGD, hG]
    rw [hB]
    refine ⟨ky_cvs F, fun o kvs hkv => ?_⟩
    conv => whnf
    rw [put_same]
    refine lc_filter F cdK (pB c) (fun _ => .int 1) hkv (sz2 (by omega)) (fun _ h => h _ _ put_same) (fun x hx S' _ => ⟨_, rfl, fun kk hk => ?_, fun _ k hk => hk⟩) ?_
    · rw [show pB c x = preS (cdS c) (cdS x) from (preS_cd c x).symm] at hk
      exact ⟨rfl, hk⟩
    refine ⟨put_same, ?_⟩
    rw [put_put, put_self hB]
    conv => whnf
    rw [show lenP _ (cdK c) = some c.length from len_cd hc9]
    dsimp only
    rw [List.length_map]
    conv => whnf
    refine ⟨?_, ?_⟩
    · exact mulOk40 (by decide) (by decide) (by omega) (by omega)
    conv => whnf
    refine ⟨⟨by omega, ?_⟩, ?_⟩
    · rw [show Builtin.Int.intBits 1 = 1 by decide]
      omega
    rw [pow_shl n c.length hcn]
    have hfi := full_iff nd hF hcu
    generalize hmany : (F.filter (pB c)).length = many at hfi ⊢
    refine cnd_i (b := decide (((many : Nat) : Int) = ((4 ^ (n - c.length) : Nat) : Int))) (fun e2 => ?_) (fun e2 => ?_)
    · have hful : Full n F c := hfi.mp (by have := of_decide_eq_true e2; omega)
      refine ⟨by simp [ckL, rdL, put_ne hDE, put_same], ?_⟩
      conv => whnf
      unfold oAppend
      dsimp only
      rw [put_ne hDE, put_same]
      refine ⟨by rw [List.length_map]; exact Nat.lt_of_le_of_lt (show Fd.length ≤ 1400 by omega) (by decide), wS n P, ?_, P, Fd ++ [c], _, _, rfl, ?_, hI.found hful, rfl, ?_⟩
      · have := w1_pos (n - c.length)
        omega
      · rw [put_comm hDE, put_put, cvs_app]
        exact put_comm (Ne.symm hDE)
      · have := w1_pos (n - c.length)
        rw [List.length_append, List.length_singleton]
        omega
    · have hnf : ¬ Full n F c := fun z => by
        have := of_decide_eq_false e2
        have := hfi.mpr z
        omega
      refine cnd_i (b := decide ((0 : Int) < ((many : Nat) : Int))) (fun e3 => ?_) (fun e3 => ?_)
      · have e3 : 0 < many := by have := of_decide_eq_true e3; omega
        obtain ⟨f, hf⟩ := List.exists_mem_of_length_pos (l := F.filter (pB c)) (by omega)
        obtain ⟨hf1, hf2⟩ := List.mem_filter.mp hf
        have hlt : c.length < n := by
          by_cases z : c.length = n
          · exfalso
            refine hnf fun d hd p => ?_
            have e4 := p.eq_of_length (by rw [z, hd.1])
            have e5 := (pB_iff.mp hf2).eq_of_length (by rw [z, (hF f hf1).1])
            rw [← e4, e5]; exact hf1
          · omega
        have hk := ws_kids hlt
        rw [ws_one] at hk
        refine ⟨by simp [ckL, put_same], ?_⟩
        conv => whnf
        refine lc_map kidsC fg (fun s => cdK (c ++ [s])) fig_chars (by decide) (fun _ _ => trivial) (fun s hs S' _ => ⟨_, rfl, fun k2 hk2 => ?_⟩) ?_
        · refine ⟨by rw [cd_len]; exact sz2 (by show c.length + 1 ≤ _; omega), ?_⟩
          rw [cd_kid]
          exact hk2
        conv => whnf
        rw [put_same]
        refine ⟨by rw [List.length_map, List.length_map]; rw [List.length_append, List.length_singleton] at hll; exact sz3 (by show P.length + 4 ≤ _; omega), wS n (P ++ kidL c), ?_, P ++ kidL c, Fd, _, _, rfl, ?_, hI.kids hF hlt hnf, rfl, ?_⟩
        · rw [ws_app]; omega
        · rw [put_put, cvs_app]
          rfl
        · rw [ws_app]; omega
      · have e3 : many = 0 := by have := of_decide_eq_false e3; omega
        refine ⟨wS n P, ?_, P, Fd, _, _, rfl, rfl, hI.drop fun d hd p => ?_, rfl, by omega⟩
        · have := w1_pos (n - c.length)
          omega
        · have : d ∈ F.filter (pB c) := List.mem_filter.mpr ⟨hd, pB_iff.mpr p⟩
          have := List.length_pos_of_mem this
          omega
  · obtain rfl : Lf = [] := by simpa using e
    conv => whnf
    rw [show rdL (put (put S D (.lst (cvs Fd))) E (.lst (cvs []))) (.ref D) = some (cvs Fd) by simp [rdL, put_ne hDE, put_same]]
    refine ⟨by rw [strs_cvs]; exact sortOk_str _, ?_⟩
    rw [sort_cvs]
    refine Out.less (S' := S) (fun z o hz => ?_) (q _ _ ⟨sortC Fd, hI.isM hF (by omega), ?_, rfl, rfl⟩)
    · have h1 : z ≠ D := fun e => by rw [e, hD] at hz; cases hz
      have h2 : z ≠ E := fun e => by rw [e, hE] at hz; cases hz
      rw [put_ne h2, put_ne h1]
      exact hz
    · rw [show (sortC Fd).length = Fd.length from List.length_mergeSort _]
      omega

def sp_law : PSp := SpS (fun (ns : List Int) => [.scr (ns.map .int)]) (fun ns _ => ns.length ≤ 63) fun _ _ p _ => p = .bl true
def b_law : PFS :=
  gSeq (gBeg [1, 2, 3, 4, 5, 6, 7, 8, 9, 10] (gFor (fRng1 (fCons (fN oMax (fCons (fC (.int 1)) (fCons (fN oMin (fCons (fN oLen (fCons (fVar 0) (fNil))) (fCons (fC (.int 4)) (fNil)))) (fNil)))) (fNil))) (.nm 1) (gEnd [1, 2, 3, 4, 5, 6, 7, 8, 9, 10] (gSeq (gSet 2 (fCall sp__law_state [] noE (fCons (fVar 0) (fCons (fVar 1) (fNil)))))
    (gSeq (gSet 3 (fCall sp__law_codes [] noE (fCons (fVar 2) (fCons (fC (.int 4)) (fNil)))))
    (gSeq (gSet 4 (f2 oIx (fN oLst (fCons (fCall sp__law_codes [] noE (fCons (fVar 2) (fCons (fC (.int 4)) (fNil)))) (fCons (f1 oEv (fVar 3)) (fCons (fN oTup (fNil)) (fCons (fN oTup (fCons (fC (.str "")) (fNil))) (fCons (fVar 3) (fNil))))))) (fCall sp__law_choice [] noE (fCons (fVar 2) (fCons (fC (.int 5)) (fNil))))))
    (gSeq (gTgt (.tp [.nm 5, .nm 6, .nm 7]) (fN oTup (fCons (fN oRepr (fCons (fN oTup (fCons (fVar 3) (fCons (fVar 4) (fNil)))) (fNil))) (fCons (fCall sp__law_fine [] noE (fCons (fVar 3) (fCons (fC (.int 4)) (fNil)))) (fCons (fCall sp__law_fine [] noE (fCons (fVar 4) (fCons (fC (.int 4)) (fNil)))) (fNil))))))
    (gSeq (gSet 8 (fN oLstT (fCons (fCall sp__law_fewest [] noE (fCons (fVar 6) (fCons (fC (.int 4)) (fNil)))) (fNil))))
    (gSeq (gDrop (fMeth ckL oAppend (fVar 8) (fCons (fCall sp__law_fewest [] noE (fCons (fN oDictOfT (fCons (fLockD 6 (fLc (fKeysL (fVar 6)) (.nm 12) (fBV (f2 (oIn2 false) (fVar 12) (fVar 7))) (fN oTup (fCons (fVar 12) (fCons (fC (.bl true)) (fNil)))) [12])) (fNil))) (fCons (fC (.int 4)) (fNil)))) (fNil))))
    (gSeq (gDrop (fMeth ckL oAppend (fVar 8) (fCons (fCall sp__law_fewest [] noE (fCons (fN oDictOfT (fCons (fLockD 6 (fLc (fKeysL (fVar 6)) (.nm 12) (fBV (f2 (oIn2 true) (fVar 12) (fVar 7))) (fN oTup (fCons (fVar 12) (fCons (fC (.bl true)) (fNil)))) [12])) (fNil))) (fCons (fC (.int 4)) (fNil)))) (fNil))))
    (gBeg [9, 10] (gFor (fRng1 (fCons (fC (.int 2)) (fNil))) (.nm 9) (gEnd [9, 10] (gSeq (gSet 10 (fN oLst (fCons (fCall sp_merged [] noE (fCons (fVar 3) (fNil))) (fCons (fCall sp_common [] noE (fCons (fVar 3) (fCons (fVar 4) (fNil)))) (fCons (fCall sp_without [] noE (fCons (fVar 3) (fCons (fVar 4) (fNil)))) (fNil))))))
    (gIf (fOr (fNot (fBV (fCall sp__law_same [] noE (fCons (fVar 10) (fCons (fVar 8) (fNil)))))) (fBV (f2 oNe (fN oRepr (fCons (fN oTup (fCons (fVar 3) (fCons (fVar 4) (fNil)))) (fNil))) (fVar 5)))) (gRet (fC (.bl false))) (gNext))))))))))))))))
    (gSeq (gSet 11 (fN oTuple (fCons (fN oSortedDL (fCons (fCall sp__law_fine [] noE (fCons (fN oTup (fCons (fC (.str "")) (fNil))) (fCons (fC (.int 5)) (fNil)))) (fNil))) (fNil))))
    (gRet (fAndV (f2 oEq (fCall sp_merged [] noE (fCons (fVar 11) (fNil))) (fN oTup (fCons (fC (.str "")) (fNil)))) (f2 oEq (fSl (fCall sp_without [] noE (fCons (fVar 11) (fCons (fN oTup (fCons (fC (.str "33333")) (fNil))) (fNil)))) (fPart (f1 oNeg (fC (.int 3)))) (fNoPart)) (fN oTup (fCons (fC (.str "33330")) (fCons (fC (.str "33331")) (fCons (fC (.str "33332")) (fNil)))))))))
theorem len_law : ∀ (xs : List Pv) (S : Sto) (Q : QV) (E : QE), sp_law xs S Q E → xs.length = 1 := SpS.len fun _ => rfl
theorem mono_law : ∀ (xs : List Pv) (S : Sto) (Q Q' : QV) (E E' : QE), (∀ p S', Q p S' → Q' p S') → (∀ C S', E C S' → E' C S') → sp_law xs S Q E → sp_law xs S Q' E' := SpS.mono
theorem sp_law_at {ns : List Int} {Q : QV} (hl : ns.length ≤ 63) (hq : ∀ S, Q (.bl true) S) : sp_law [.scr (ns.map .int)] (fun _ => none) Q noE := ⟨ns, rfl, hl, fun p S' e => by cases e; exact hq _⟩
theorem CsOk.sub {L M : List Cd} (h : CsOk L) (s : M.Sublist L) : CsOk M := ⟨fun c hc => h.vd c (s.subset hc), h.nd.sublist s, fun a ha b hb => h.anti a (s.subset ha) b (s.subset hb), h.pw.sublist s⟩
theorem cs_one : CsOk [[]] := ⟨fun c hc => by rw [List.mem_singleton.mp hc]; exact ⟨by decide, fun d hd => by cases hd⟩, by simp, fun a ha b hb _ => by rw [List.mem_singleton.mp ha, List.mem_singleton.mp hb], List.pairwise_singleton _ _⟩
theorem cs_nil : CsOk [] := ⟨(fun c hc => nomatch hc), List.nodup_nil, (fun a ha => nomatch ha), List.Pairwise.nil⟩
/-- codes that the law hands in -/
structure Cs4 (L : List Cd) : Prop where
  ok : CsOk L
  len : L.length ≤ 16
  four : ∀ c ∈ L, c.length ≤ 4
theorem Cs4.up {L : List Cd} (h : Cs4 L) : ∀ c ∈ L, Up 4 c := fun c hc => ⟨h.four c hc, (h.ok.vd c hc).2⟩
theorem sh_cvs {L : List Cd} (hv : ∀ c ∈ L, Vd c) (hl : L.length ≤ 2000) : Sh 200000 1 (.tup (cvs L)) := by
  have h : Shs ((92 + 2) * L.length) 0 (L.map cdK) := Shs.map fun c hc => Sh.cd (hv c hc).1 (hv c hc).2
  exact (Sh.tup h).up (by omega) (by decide)
theorem mates {A B : List Cd} (hA : Cs4 A) (hB : Cs4 B) {r : Int} (r0 : 0 ≤ r) (r1 : r < 5) : ∃ C, Cs4 C ∧ atI [Pv.tup (cvs B), .tup (evens (cvs A)), .tup [], .tup [.str (Str.ofString "")], .tup (cvs A)] r = some (.tup (cvs C)) := by
  have : r = 0 ∨ r = 1 ∨ r = 2 ∨ r = 3 ∨ r = 4 := by omega
  rcases this with rfl | rfl | rfl | rfl | rfl
  · exact ⟨B, hB, rfl⟩
  · refine ⟨evens A, ⟨hA.ok.sub (evens_sub A), Nat.le_trans (evens_len A) hA.len, fun c hc => hA.four c ((evens_sub A).subset hc)⟩, ?_⟩
    show some (Pv.tup (evens (cvs A))) = _
    rw [show evens (cvs A) = cvs (evens A) from evens_map cdK A]
  · exact ⟨[], ⟨cs_nil, Nat.zero_le _, fun c hc => nomatch hc⟩, rfl⟩
  · exact ⟨[[]], ⟨cs_one, by decide, fun c hc => by rw [List.mem_singleton.mp hc]; decide⟩, rfl⟩
  · exact ⟨A, hA, rfl⟩
theorem cvs_nd {L : List Cd} (h : L.Nodup) : (cvs L).Nodup := List.Pairwise.map cdK (fun a b ne e => ne (cd_inj (Pv.str.inj e))) h
/-- dict([(c, True) ..]) -/
theorem dict_of {J : List Cd} {Q : QV} {S : Sto} (nd : J.Nodup) (q : ∀ a, S a = none → Q (.ref a) (put S a (.dct (cvs J) (trs J)))) : oDictOfT [.lst (J.map fun c => .tup [cdK c, .bl true])] S Q := by
  show ∃ ts : List (Pv × Pv), _ ∧ _
  refine ⟨J.map fun c => (cdK c, .bl true), by rw [List.map_map]; rfl, fun t ht => ?_, ?_, ?_⟩
  · obtain ⟨c, _, rfl⟩ := List.mem_map.mp ht
    rfl
  · rw [List.map_map]
    exact cvs_nd nd
  · rw [List.map_map, List.map_map]
    exact q
theorem fn4 {n : Nat} {L F : List Cd} (h : FineOk n L F) : ∀ d ∈ F, Fn n d := fun d hd => ((h.mem d).mp hd).1
theorem take4 {L F : List Cd} (hf : FineOk 4 L F) (h4 : ∀ c ∈ L, c.length ≤ 4) {d : Cd} (hd : Ptn d) : d.take 4 ∈ F ↔ covC L d := by
  rw [hf.mem, take_cov h4]
  exact ⟨fun z => z.2, fun z => ⟨ptn_take (by decide) hd, z⟩⟩
/-! ### the last line -/
def U5 : List Cd := (List.range 5).flatMap fun k => extC k []
theorem u5_mem {u : Cd} : u ∈ U5 ↔ u.length ≤ 4 ∧ ∀ x ∈ u, x < 4 := by
  unfold U5
  rw [List.mem_flatMap]
  constructor
  · rintro ⟨k, hk, h⟩
    obtain ⟨_, l, a⟩ := (ext_mem k [] (fun x hx => nomatch hx) u).mp h
    have := List.mem_range.mp hk
    exact ⟨by rw [l]; simp; omega, a⟩
  · rintro ⟨l, a⟩
    exact ⟨u.length, List.mem_range.mpr (by omega), (ext_mem _ [] (fun x hx => nomatch hx) u).mpr ⟨List.nil_prefix, by simp, a⟩⟩
theorem u5_us : Us U5 := by
  have hl : U5.length = 341 := by
    show ([0, 1, 2, 3, 4].flatMap fun k => extC k []).length = 341
    simp only [List.flatMap_cons, List.flatMap_nil, List.length_append, ext_len, List.length_nil]
  refine ⟨fun u hu p hp => ?_, fun k => ?_, by omega⟩
  · have := u5_mem.mp hu
    exact u5_mem.mpr ⟨Nat.le_trans hp.length_le this.1, fun x hx => this.2 x (hp.subset hx)⟩
  · have := List.length_filter_le (fun u : Cd => decide (u.length = k)) U5
    omega
theorem u5_bg {L : List Cd} (h : ∀ c ∈ L, Up 5 c) : Bg U5 L := fun c hc => by
  have := h c hc
  exact u5_mem.mpr ⟨by rw [List.length_dropLast]; have := this.1; omega, fun x hx => this.2 x (List.dropLast_subset c hx)⟩
def E15 : List Cd := [[0], [1], [2], [3, 0], [3, 1], [3, 2], [3, 3, 0], [3, 3, 1], [3, 3, 2], [3, 3, 3, 0], [3, 3, 3, 1], [3, 3, 3, 2], [3, 3, 3, 3, 0], [3, 3, 3, 3, 1], [3, 3, 3, 3, 2]]
theorem e15_all : ∀ p ∈ extC 5 [], (E15.any fun e => pB e p) = !pB [3, 3, 3, 3, 3] p := by
  have : ((extC 5 []).all fun p => (E15.any fun e => pB e p) == !pB [3, 3, 3, 3, 3] p) = true := by decide +kernel
  intro p hp
  exact eq_of_beq (List.all_eq_true.mp this p hp)
theorem e15_isM : IsM (fun d => ¬ covC [[3, 3, 3, 3, 3]] d) E15 := by
  have hv : ∀ c ∈ E15, c.length ≤ 5 ∧ ∀ d ∈ c, d < 4 := by decide
  refine ⟨fun c hc => ⟨Nat.le_trans (hv c hc).1 (by decide), (hv c hc).2⟩, by decide, ?_, fun d hd => ?_, fun b hb => ?_, by decide +kernel⟩
  · have : ∀ a ∈ E15, ∀ b ∈ E15, a.isPrefixOf b = true → a = b := by decide
    exact fun a ha b hb p => this a ha b hb (List.isPrefixOf_iff_prefix.mpr p)
  · have h5 := ptn_take (n := 5) (by decide) hd
    have hm := e15_all (d.take 5) ((ext_mem 5 [] (fun x hx => nomatch hx) _).mpr ⟨List.nil_prefix, h5.1, h5.2⟩)
    rw [← take_cov (fun c hc => (hv c hc).1) d, ← take_cov (n := 5) (L := [[3, 3, 3, 3, 3]]) (fun c hc => by rw [List.mem_singleton.mp hc]; decide) d]
    have e1 : (E15.any fun e => pB e (d.take 5)) = true ↔ covC E15 (d.take 5) := hasB_iff
    have e2 : pB [3, 3, 3, 3, 3] (d.take 5) = true ↔ covC [[3, 3, 3, 3, 3]] (d.take 5) := by
      rw [pB_iff]
      exact ⟨fun p => ⟨_, List.mem_singleton.mpr rfl, p⟩, fun ⟨c, hc, p⟩ => by rwa [List.mem_singleton.mp hc] at p⟩
    rw [← e1, ← e2, hm, Bool.not_eq_true', Bool.not_eq_true]
  · have h3 := hb 3 (by decide)
    have : ∀ c ∈ E15, c.getLast? ≠ some 3 := by decide
    exact this _ h3 (by simp)
theorem one_isM : IsM (fun _ => True) [[]] := ⟨cs_one.vd, cs_one.nd, cs_one.anti, fun d _ => ⟨fun _ => trivial, fun _ => covC_all d⟩, (fun b hb => by have := hb 0 (by decide); simp at this), cs_one.pw⟩
theorem five_ok : CsOk [[3, 3, 3, 3, 3]] := ⟨fun c hc => by rw [List.mem_singleton.mp hc]; exact ⟨by decide, by decide⟩, by simp, fun a ha b hb _ => by rw [List.mem_singleton.mp ha, List.mem_singleton.mp hb], List.pairwise_singleton _ _⟩
set_option maxHeartbeats 2000000 in
theorem ex_law {xs : List Pv} {S0 : Sto} {Q : QV} {Ep : QE} : sp_law xs S0 Q Ep → b_law (endD Q) (st0 13 xs) S0 := SpS.ex fun ns S Q hl q => by
  refine ⟨?_, ?_⟩
  · unfold bnd
    split <;> (try split) <;> (simp only [List.length_map] at *; constructor <;> omega)
  try simp only [st0, wipeP, List.set_cons_zero, List.set_cons_succ, List.map_cons, List.map_nil, List.cons_append, List.nil_append, List.replicate_succ, List.replicate_zero, List.length_cons, List.length_nil, Nat.reduceSub, Nat.reduceAdd]
  refine forW_c (P := fun x => ∃ k : Nat, x = .int k) (fun _ => True) (fun x hx => rng_mem hx) trivial (fun S _ => ⟨trivial, ?_⟩) ?_
  · refine ⟨lz rfl, ([[]], 5), rfl, ⟨(by decide : 5 ≤ 5), fun c hc => by rw [List.mem_singleton.mp hc]; exact ⟨by decide, fun x hx => nomatch hx⟩, (by decide : 1 ≤ 40)⟩, ?_⟩
    rintro _ _ ⟨F, G, hF, hG, rfl, rfl⟩
    have hF : FineOk 5 [[]] F := hF
    conv => whnf
    rw [show dcP (put S G (.dct (cvs F) (trs F))) (.ref G) = some (cvs F, trs F) by simp [dcP, put_same]]
    have hFl : F.length ≤ 1024 := fn_len hF.nd (fn4 hF)
    refine ⟨F.map cdS, strs_cvs F, by rw [List.length_map]; exact sz2 (by omega), ?_⟩
    rw [sortC_map, ← strs_cvs]
    have hup : ∀ c ∈ sortC F, Up 5 c := fun c hc => by
      have := fn4 hF c (sortC_mem.mp hc)
      exact ⟨Nat.le_of_eq this.1, this.2⟩
    have hV : CsOk (sortC F) := CsOk.sort (fun c hc => by have := fn4 hF c hc; exact ⟨by rw [this.1]; decide, this.2⟩) hF.nd fun a ha b hb p => p.eq_of_length (by rw [(fn4 hF a ha).1, (fn4 hF b hb).1])
    have lV : (sortC F).length ≤ 1024 := by rw [show (sortC F).length = F.length from List.length_mergeSort _]; exact hFl
    have cV : ∀ d, Ptn d → covC (sortC F) d := fun d hd => covC_sort.mpr ⟨d.take 5, (hF.mem _).mpr ⟨ptn_take (by decide) hd, covC_all _⟩, List.take_prefix 5 d⟩
    generalize sortC F = V at hup hV lV cV ⊢
    try simp only [st0, wipeP, List.set_cons_zero, List.set_cons_succ, List.map_cons, List.map_nil, List.cons_append, List.nil_append, List.replicate_succ, List.replicate_zero, List.length_cons, List.length_nil, Nat.reduceSub, Nat.reduceAdd]
    refine ⟨(V, U5), rfl, ⟨hV, u5_bg hup, u5_us, lV⟩, ?_⟩
    rintro _ _ ⟨M, hM, -, rfl, rfl⟩
    obtain rfl : M = [[]] := hM.uniq one_isM fun d hd => ⟨fun _ => trivial, fun _ => cV d hd⟩
    have okE : okD (.tup [.str (Str.ofString "")]) = true := by decide +kernel
    refine ⟨lz rfl, ⟨okE, okE⟩, ?_⟩
    conv => whnf
    refine ⟨lz rfl, (V, [[3, 3, 3, 3, 3]], U5), rfl, ⟨hV, five_ok, u5_bg hup, u5_bg fun c hc => by rw [List.mem_singleton.mp hc]; exact ⟨by decide, by decide⟩, u5_us, lV, (by decide : 1 ≤ 1024)⟩, ?_⟩
    rintro _ _ ⟨N, hN, -, rfl, rfl⟩
    obtain rfl : N = E15 := hN.uniq e15_isM fun d hd => ⟨fun z => z.2, fun z => ⟨cV d hd, z⟩⟩
    conv => whnf
    refine ⟨lz rfl, ?_⟩
    conv => whnf
    have okT : okD (.tup [.str (Str.ofString "33330"), .str (Str.ofString "33331"), .str (Str.ofString "33332")]) = true := by decide +kernel
    have ec : cutP (cvs E15) (some (-3)) none = [.str (Str.ofString "33330"), .str (Str.ofString "33331"), .str (Str.ofString "33332")] := rfl
    rw [ec]
    refine ⟨⟨okT, okT⟩, Out.id (q _ _ ?_)⟩
    exact congrArg Pv.bl (eqv_refl _ (isD_of okT))
  rintro _ ⟨k, rfl⟩ kk hk S -
  refine ⟨trivial, (ns, k), rfl, trivial, ?_⟩
  rintro _ _ ⟨l, m, hl0, sm, rfl, rfl⟩
  have k0 : Pk St3 (put S l m) l (put S l m) := Pk.refl put_same sm
  generalize put S l m = S1 at k0 ⊢
  try simp only [st0, wipeP, List.set_cons_zero, List.set_cons_succ, List.map_cons, List.map_nil, List.cons_append, List.nil_append, List.replicate_succ, List.replicate_zero, List.length_cons, List.length_nil, Nat.reduceSub, Nat.reduceAdd]
  refine ⟨l, rfl, k0.pen, ?_⟩
  rintro _ _ ⟨A, m2, cA, fA, lA, s2, rfl, rfl⟩
  have k2 := k0.draw s2
  have hA : Cs4 A := ⟨cA, lA, fA⟩
  generalize put S1 l m2 = S2 at k2 ⊢
  clear k0 sm s2
  try simp only [st0, wipeP, List.set_cons_zero, List.set_cons_succ, List.map_cons, List.map_nil, List.cons_append, List.nil_append, List.replicate_succ, List.replicate_zero, List.length_cons, List.length_nil, Nat.reduceSub, Nat.reduceAdd]
  refine ⟨l, rfl, k2.pen, ?_⟩
  rintro _ _ ⟨B, m3, cB, fB, lB, s3, rfl, rfl⟩
  have hB : Cs4 B := ⟨cB, lB, fB⟩
  have k3 := k2.draw s3
  generalize put S2 l m3 = S3 at k3 ⊢
  clear k2 s3
  refine ⟨lz rfl, lz rfl, lz rfl, ?_⟩
  refine ⟨(l, 5), rfl, ⟨k3.pen, (by decide : (0 : Int) < 5), (by decide : (5 : Int) < 2 ^ 64)⟩, ?_⟩
  rintro _ _ ⟨r, m4, r0, r1, s4, rfl, rfl⟩
  have r1 : r < 5 := r1
  have k4 := k3.draw s4
  generalize put S3 l m4 = S4 at k4 ⊢
  clear k3 s4
  obtain ⟨C, hC, eC⟩ := mates hA hB r0 r1
  conv => whnf
  rw [eC]
  try simp only [st0, wipeP, List.set_cons_zero, List.set_cons_succ, List.map_cons, List.map_nil, List.cons_append, List.nil_append, List.replicate_succ, List.replicate_zero, List.length_cons, List.length_nil, Nat.reduceSub, Nat.reduceAdd]
  have okS : okR (.tup [.tup (cvs A), .tup (cvs C)]) := (Sh.tup (Shs.cons (sh_cvs hA.ok.vd (Nat.le_trans hA.len (by decide))) (Shs.cons (sh_cvs hC.ok.vd (Nat.le_trans hC.len (by decide))) Shs.nil))).ok (by decide) (by decide)
  refine ⟨lz rfl, okS, fun z ez => ?_⟩
  refine ⟨(A, 4), rfl, ⟨(by decide : 4 ≤ 5), hA.up, Nat.le_trans hA.len (by decide)⟩, ?_⟩
  rintro _ _ ⟨F, G, hF, hG, rfl, rfl⟩
  refine ⟨(C, 4), rfl, ⟨(by decide : 4 ≤ 5), hC.up, Nat.le_trans hC.len (by decide)⟩, ?_⟩
  rintro _ _ ⟨I, J, hI, hJ, rfl, rfl⟩
  have hF : FineOk 4 A F := hF
  have hI : FineOk 4 C I := hI
  obtain ⟨_, hGJ⟩ := none_two hJ
  have sG : put (put S4 G (.dct (cvs F) (trs F))) J (.dct (cvs I) (trs I)) G = some (.dct (cvs F) (trs F)) := by rw [put_ne hGJ, put_same]
  have sJ : put (put S4 G (.dct (cvs F) (trs F))) J (.dct (cvs I) (trs I)) J = some (.dct (cvs I) (trs I)) := put_same
  generalize put (put S4 G (.dct (cvs F) (trs F))) J (.dct (cvs I) (trs I)) = S5 at sG sJ ⊢
  clear k4 hG hJ
  have hFl : F.length ≤ 256 := fn_len hF.nd (fn4 hF)
  refine ⟨lz rfl, ?_⟩
  try simp only [st0, wipeP, List.set_cons_zero, List.set_cons_succ, List.map_cons, List.map_nil, List.cons_append, List.nil_append, List.replicate_succ, List.replicate_zero, List.length_cons, List.length_nil, Nat.reduceSub, Nat.reduceAdd]
  refine ⟨(G, F, 4), rfl, ⟨sG, (by decide : 4 ≤ 5), hF.nd, fn4 hF⟩, ?_⟩
  rintro _ _ ⟨M1, hM1, l1, rfl, rfl⟩
  have hM1 : IsM (fun d => d.take 4 ∈ F) M1 := hM1
  have hM1 : IsM (covC A) M1 := hM1.of fun d hd => take4 hF hA.four hd
  refine ⟨lz rfl, ?_⟩
  intro E hE
  try simp only [st0, wipeP, List.set_cons_zero, List.set_cons_succ, List.map_cons, List.map_nil, List.cons_append, List.nil_append, List.replicate_succ, List.replicate_zero, List.length_cons, List.length_nil, Nat.reduceSub, Nat.reduceAdd]
  have hGE : G ≠ E := fun e => by rw [e, hE] at sG; cases sG
  have hJE : J ≠ E := fun e => by rw [e, hE] at sJ; cases sJ
  have sG : put S5 E (.lst [.tup (cvs M1)]) G = some (.dct (cvs F) (trs F)) := by rw [put_ne hGE]; exact sG
  have sJ : put S5 E (.lst [.tup (cvs M1)]) J = some (.dct (cvs I) (trs I)) := by rw [put_ne hJE]; exact sJ
  have sE : put S5 E (.lst [.tup (cvs M1)]) E = some (.lst [.tup (cvs M1)]) := put_same
  generalize put S5 E (.lst [.tup (cvs M1)]) = S6 at sG sJ sE ⊢
  refine ⟨by simp [ckL, rdL, sE], ?_⟩
  conv => whnf
  rw [sG]
  refine ⟨ky_cvs F, fun o kvs hkv => ?_⟩
  conv => whnf
  rw [put_same]
  refine lc_filter F cdK (fun c => decide (c ∈ I)) (fun c => .tup [cdK c, .bl true]) hkv (sz2 (by omega)) (fun _ h => h _ _ put_same) (fun x hx S' hS' => ⟨_, rfl, fun kk2 hk2 => ?_, fun _ k2 hk2 => ⟨lz rfl, hk2⟩⟩) ?_
  · have sJ' : S' J = some (.dct (cvs I) (trs I)) := hS' _ _ (by rw [put_ne (Ne.symm hGJ)]; exact sJ)
    conv => whnf
    rw [show dcP S' (.ref J) = some (cvs I, trs I) by simp [dcP, sJ']]
    refine ⟨rfl, ky_cvs I, ?_⟩
    rw [← getK_is] at hk2
    exact hk2
  refine ⟨put_same, ?_⟩
  rw [put_put, put_self sG]
  have ndf : (F.filter (fun c => decide (c ∈ I))).Nodup := hF.nd.sublist List.filter_sublist
  dsimp only [fNil]
  refine dict_of ndf fun E2 hE2 => ?_
  refine ⟨(E2, F.filter (fun c => decide (c ∈ I)), 4), rfl, ⟨put_same, (by decide : 4 ≤ 5), ndf, fun d hd => fn4 hF d (List.mem_filter.mp hd).1⟩, ?_⟩
  rintro _ _ ⟨M2, hM2, l2, rfl, rfl⟩
  have hM2 : IsM (fun d => d.take 4 ∈ F.filter (fun c => decide (c ∈ I))) M2 := hM2
  have hM2 : IsM (fun d => covC A d ∧ covC C d) M2 := hM2.of fun d hd => by
    rw [List.mem_filter, decide_eq_true_eq, take4 hF hA.four hd, take4 hI hC.four hd]
  have nG : G ≠ E2 := fun e => by rw [e, hE2] at sG; cases sG
  have nJ : J ≠ E2 := fun e => by rw [e, hE2] at sJ; cases sJ
  have nE : E ≠ E2 := fun e => by rw [e, hE2] at sE; cases sE
  refine app_i (by rw [put_ne nE]; exact sE) (lz' rfl) ?_
  have sG : put (put S6 E2 (.dct (cvs (F.filter (fun c => decide (c ∈ I)))) (trs (F.filter (fun c => decide (c ∈ I)))))) E (.lst [.tup (cvs M1), .tup (cvs M2)]) G = some (.dct (cvs F) (trs F)) := by rw [put_ne hGE, put_ne nG]; exact sG
  have sJ : put (put S6 E2 (.dct (cvs (F.filter (fun c => decide (c ∈ I)))) (trs (F.filter (fun c => decide (c ∈ I)))))) E (.lst [.tup (cvs M1), .tup (cvs M2)]) J = some (.dct (cvs I) (trs I)) := by rw [put_ne hJE, put_ne nJ]; exact sJ
  have sE : put (put S6 E2 (.dct (cvs (F.filter (fun c => decide (c ∈ I)))) (trs (F.filter (fun c => decide (c ∈ I)))))) E (.lst [.tup (cvs M1), .tup (cvs M2)]) E = some (.lst [.tup (cvs M1), .tup (cvs M2)]) := put_same
  try simp only [st0, wipeP, List.set_cons_zero, List.set_cons_succ, List.map_cons, List.map_nil, List.cons_append, List.nil_append, List.replicate_succ, List.replicate_zero, List.length_cons, List.length_nil, Nat.reduceSub, Nat.reduceAdd]
  generalize put (put S6 E2 (.dct (cvs (F.filter (fun c => decide (c ∈ I)))) (trs (F.filter (fun c => decide (c ∈ I)))))) E (.lst [.tup (cvs M1), .tup (cvs M2)]) = S7 at sG sJ sE ⊢
  refine ⟨by simp [ckL, rdL, sE], ?_⟩
  conv => whnf
  rw [sG]
  refine ⟨ky_cvs F, fun o kvs hkv => ?_⟩
  conv => whnf
  rw [put_same]
  refine lc_filter F cdK (fun c => !decide (c ∈ I)) (fun c => .tup [cdK c, .bl true]) hkv (sz2 (by omega)) (fun _ h => h _ _ put_same) (fun x hx S' hS' => ⟨_, rfl, fun kk2 hk2 => ?_, fun _ k2 hk2 => ⟨lz rfl, hk2⟩⟩) ?_
  · have sJ' : S' J = some (.dct (cvs I) (trs I)) := hS' _ _ (by rw [put_ne (Ne.symm hGJ)]; exact sJ)
    conv => whnf
    rw [show dcP S' (.ref J) = some (cvs I, trs I) by simp [dcP, sJ']]
    refine ⟨rfl, ky_cvs I, ?_⟩
    rw [← getK_is] at hk2
    exact hk2
  refine ⟨put_same, ?_⟩
  rw [put_put, put_self sG]
  have ndf : (F.filter (fun c => !decide (c ∈ I))).Nodup := hF.nd.sublist List.filter_sublist
  dsimp only [fNil]
  refine dict_of ndf fun E3 hE3 => ?_
  refine ⟨(E3, F.filter (fun c => !decide (c ∈ I)), 4), rfl, ⟨put_same, (by decide : 4 ≤ 5), ndf, fun d hd => fn4 hF d (List.mem_filter.mp hd).1⟩, ?_⟩
  rintro _ _ ⟨M3, hM3, l3, rfl, rfl⟩
  have hM3 : IsM (fun d => d.take 4 ∈ F.filter (fun c => !decide (c ∈ I))) M3 := hM3
  have hM3 : IsM (fun d => covC A d ∧ ¬ covC C d) M3 := hM3.of fun d hd => by
    rw [List.mem_filter, Bool.not_eq_true', decide_eq_false_iff_not, take4 hF hA.four hd, take4 hI hC.four hd]
  have nG : G ≠ E3 := fun e => by rw [e, hE3] at sG; cases sG
  have nJ : J ≠ E3 := fun e => by rw [e, hE3] at sJ; cases sJ
  have nE : E ≠ E3 := fun e => by rw [e, hE3] at sE; cases sE
  refine app_i (by rw [put_ne nE]; exact sE) (lz' rfl) ?_
  have sG : put (put S7 E3 (.dct (cvs (F.filter (fun c => !decide (c ∈ I)))) (trs (F.filter (fun c => !decide (c ∈ I)))))) E (.lst [.tup (cvs M1), .tup (cvs M2), .tup (cvs M3)]) G = some (.dct (cvs F) (trs F)) := by rw [put_ne hGE, put_ne nG]; exact sG
  have sJ : put (put S7 E3 (.dct (cvs (F.filter (fun c => !decide (c ∈ I)))) (trs (F.filter (fun c => !decide (c ∈ I)))))) E (.lst [.tup (cvs M1), .tup (cvs M2), .tup (cvs M3)]) J = some (.dct (cvs I) (trs I)) := by rw [put_ne hJE, put_ne nJ]; exact sJ
  have sE : put (put S7 E3 (.dct (cvs (F.filter (fun c => !decide (c ∈ I)))) (trs (F.filter (fun c => !decide (c ∈ I)))))) E (.lst [.tup (cvs M1), .tup (cvs M2), .tup (cvs M3)]) E = some (.lst [.tup (cvs M1), .tup (cvs M2), .tup (cvs M3)]) := put_same
  try simp only [st0, wipeP, List.set_cons_zero, List.set_cons_succ, List.map_cons, List.map_nil, List.cons_append, List.nil_append, List.replicate_succ, List.replicate_zero, List.length_cons, List.length_nil, Nat.reduceSub, Nat.reduceAdd]
  generalize put (put S7 E3 (.dct (cvs (F.filter (fun c => !decide (c ∈ I)))) (trs (F.filter (fun c => !decide (c ∈ I)))))) E (.lst [.tup (cvs M1), .tup (cvs M2), .tup (cvs M3)]) = S8 at sG sJ sE ⊢
  clear sG sJ nE nG nJ hGE hJE ndf
  have hU : Us (begU (A ++ C)) := begU_us (by rw [List.length_append]; have := hA.len; have := hC.len; omega) fun c hc => (List.mem_append.mp hc).elim (fun z => Nat.le_trans (hA.four c z) (by decide)) fun z => Nat.le_trans (hC.four c z) (by decide)
  have bA : Bg (begU (A ++ C)) A := fun c hc => begU_bg c (List.mem_append.mpr (.inl hc))
  have bC : Bg (begU (A ++ C)) C := fun c hc => begU_bg c (List.mem_append.mpr (.inr hc))
  generalize begU (A ++ C) = U at hU bA bC
  have a24 : A.length ≤ 1024 := Nat.le_trans hA.len (by decide)
  have c24 : C.length ≤ 1024 := Nat.le_trans hC.len (by decide)
  have okD : okR (.lst [.tup (cvs M1), .tup (cvs M2), .tup (cvs M3)]) := (Sh.lst (Shs.cons (sh_cvs hM1.vd l1) (Shs.cons (sh_cvs hM2.vd l2) (Shs.cons (sh_cvs hM3.vd l3) Shs.nil)))).ok (by decide) (by decide)
  refine ⟨by constructor <;> decide, ?_⟩
  try simp only [st0, wipeP, List.set_cons_zero, List.set_cons_succ, List.map_cons, List.map_nil, List.cons_append, List.nil_append, List.replicate_succ, List.replicate_zero, List.length_cons, List.length_nil, Nat.reduceSub, Nat.reduceAdd]
  refine forW_c (P := fun x => ∃ k : Nat, x = .int k) (fun S' => S' E = some (.lst [.tup (cvs M1), .tup (cvs M2), .tup (cvs M3)])) (fun x hx => rng_mem hx) sE (fun S' _ => ⟨trivial, ?_⟩) ?_
  · exact hk _ trivial
  rintro _ ⟨k6, rfl⟩ kk6 hk6 S9 sE
  refine ⟨trivial, ?_⟩
  try simp only [st0, wipeP, List.set_cons_zero, List.set_cons_succ, List.map_cons, List.map_nil, List.cons_append, List.nil_append, List.replicate_succ, List.replicate_zero, List.length_cons, List.length_nil, Nat.reduceSub, Nat.reduceAdd]
  refine ⟨(A, U), rfl, ⟨hA.ok, bA, hU, a24⟩, ?_⟩
  rintro _ _ ⟨N1, hN1, -, rfl, rfl⟩
  obtain rfl : M1 = N1 := hM1.uniq hN1 fun _ _ => Iff.rfl
  refine ⟨(A, C, U), rfl, ⟨hA.ok, hC.ok, bA, bC, hU, a24, c24⟩, ?_⟩
  rintro _ _ ⟨N2, hN2, -, rfl, rfl⟩
  obtain rfl : M2 = N2 := hM2.uniq hN2 fun _ _ => Iff.rfl
  refine ⟨(A, C, U), rfl, ⟨hA.ok, hC.ok, bA, bC, hU, a24, c24⟩, ?_⟩
  rintro _ _ ⟨N3, hN3, -, rfl, rfl⟩
  obtain rfl : M3 = N3 := hM3.uniq hN3 fun _ _ => Iff.rfl
  refine ⟨lz rfl, ?_⟩
  try simp only [st0, wipeP, List.set_cons_zero, List.set_cons_succ, List.map_cons, List.map_nil, List.cons_append, List.nil_append, List.replicate_succ, List.replicate_zero, List.length_cons, List.length_nil, Nat.reduceSub, Nat.reduceAdd]
  have et : top S9 (.ref E) = .lst [.tup (cvs M1), .tup (cvs M2), .tup (cvs M3)] := top_lst sE
  refine ⟨(_, _), rfl, ⟨okD, by rw [et]; exact okD⟩, ?_⟩
  intro b eb
  have eb : b = true := eb.trans (decide_eq_true (by show (toD (.lst _)).shown = (toD (top S9 (.ref E))).shown; rw [et]))
  subst eb
  refine ⟨lz rfl, okS, fun z2 ez2 => ?_⟩
  have e3 : z2 = z := ez2.trans ez.symm
  subst e3
  refine cnd_f (b := !decide (z2 = z2)) (by simp) ?_
  exact hk6 _ sE

section
variable {P : Program} {w : World} {K : PySem.W.Frag} {mg : Str → Option Value} {base : Heap}
def topS (i : Nat) : Stmt := PySem.Challenge.pw_onewhere_k20_codes_merged_and_held.main.body.getD i (.Pass ⟨0, 0, 0, 0⟩)
abbrev s_rises : Stmt := topS 4
abbrev n_rises : List Str := ["row", "one", "later"]
theorem sc_rises : FnScope n_rises ["row"] (defScope s_rises) := ⟨rfl, rfl, rfl, by decide +kernel, rfl, by decide +kernel, by decide +kernel⟩
theorem ok_rises {f : Addr} {dV : Value} {fd : FuncData} (F : FunV K "rises" "rises" s_rises dV f fd) (z_all : mg "all" = none) (z_zip : mg "zip" = none) : FnG P w K mg base 1 f fd ["row"] sp_rises :=
  okG F sc_rises len_rises mono_rises (fun cdv A outer s S0 H0 E Q Ep xs => by
    intro X hr hgu hE h
    exact ⟨b_rises, pzs_one (pz_ret (pv_all rfl z_all (pvs_cons (pv_lc [("one", 1), ("later", 2)] rfl sc_rises.nd (pit_zip z_zip (pvs_cons (pv_var 0) (pvs_cons (pv_slice (pv_var 0) (pvo_some (pv_int)) (pvo_none)) (pvs_nil)))) (blkOk_by (N := n_rises) (sc := defScope s_rises) (by decide +kernel)) (fun _ _ _ _ _ => pgt_tup rfl (pgt_cons (pgt_name 1 sc_rises.nd) (pgt_cons (pgt_name 2 sc_rises.nd) (pgt_nil)))) (fun _ _ _ _ _ => pbs_nil) (fun _ _ _ _ _ => pv_cmp (opLt (hu64 hr)) sim_cmp (pv_var 1) (pv_var 2) (nomark _))) (pvs_nil)))), ex_rises h⟩)
abbrev s_is_code : Stmt := topS 9
abbrev n_is_code : List Str := ["thing", "sign"]
theorem sc_is_code : FnScope n_is_code ["thing"] (defScope s_is_code) := ⟨rfl, rfl, rfl, by decide +kernel, rfl, by decide +kernel, by decide +kernel⟩
theorem ok_is_code {f : Addr} {dV : Value} {fd : FuncData} (F : FunV K "is_code" "is_code" s_is_code dV f fd) (z_all : mg "all" = none) (z_isinstance : mg "isinstance" = none) (z_len : mg "len" = none) (z_str : mg "str" = none) (g_FIGURES : ∃ u, mg "FIGURES" = some u ∧ KRep K v_FIGURES u) (g_MOST_DEPTH : ∃ u, mg "MOST_DEPTH" = some u ∧ KRep K v_MOST_DEPTH u) : FnG P w K mg base 1 f fd ["thing"] sp_is_code :=
  okG F sc_is_code len_is_code mono_is_code (fun cdv A outer s S0 H0 E Q Ep xs => by
    intro X hr hgu hE h
    obtain ⟨u_FIGURES, g_FIGURES⟩ := g_FIGURES
    obtain ⟨u_MOST_DEPTH, g_MOST_DEPTH⟩ := g_MOST_DEPTH
    exact ⟨b_is_code, pzs_one (pz_ret (pv_and (pv_isi .str z_isinstance z_str (pv_var 0)) (pv_and (pv_cmp (opLe (hu64 hr)) sim_cmp (pv_len z_len (pvs_cons (pv_var 0) (pvs_nil))) (pv_glob (by rfl) g_MOST_DEPTH.1 g_MOST_DEPTH.2) (nomark _)) (pv_one (pv_all rfl z_all (pvs_cons (pv_lc [("sign", 1)] rfl sc_is_code.nd (pit_val (pv_var 0)) (blkOk_by (N := n_is_code) (sc := defScope s_is_code) (by decide +kernel)) (fun _ _ _ _ _ => pgt_name 1 sc_is_code.nd) (fun _ _ _ _ _ => pbs_nil) (fun _ _ _ _ _ => pv_cmp (opIn (hu65 hr)) sim_in (pv_var 1) (pv_glob (by rfl) g_FIGURES.1 g_FIGURES.2) (by rfl))) (pvs_nil))))))), ex_is_code h⟩)
abbrev s_are_codes : Stmt := topS 10
abbrev n_are_codes : List Str := ["thing", "most", "one", "later"]
theorem sc_are_codes : FnScope n_are_codes ["thing", "most"] (defScope s_are_codes) := ⟨rfl, rfl, rfl, by decide +kernel, rfl, by decide +kernel, by decide +kernel⟩
theorem ok_are_codes {f : Addr} {dV : Value} {fd : FuncData} (F : FunV K "are_codes" "are_codes" s_are_codes dV f fd) (z_all : mg "all" = none) (z_any : mg "any" = none) (z_isinstance : mg "isinstance" = none) (z_len : mg "len" = none) (z_tuple : mg "tuple" = none) (z_zip : mg "zip" = none) (g_MOST_CODES : ∃ u, mg "MOST_CODES" = some u ∧ KRep K v_MOST_CODES u) (c_is_code : Cal P w K mg base 1 "is_code" [] sp_is_code) (c_rises : Cal P w K mg base 1 "rises" [] sp_rises) : FnG P w K mg base 2 f fd ["thing", "most"] sp_are_codes :=
  okG F sc_are_codes len_are_codes mono_are_codes (fun cdv A outer s S0 H0 E Q Ep xs => by
    intro X hr hgu hE h
    obtain ⟨u_MOST_CODES, g_MOST_CODES⟩ := g_MOST_CODES
    exact ⟨b_are_codes, pzs_cons (pz_if (PBw.pb (pbw_or (pb_not (pb_val (pv_isi .tup z_isinstance z_tuple (pv_var 0)))) (pbw_or1 (pb_cmp (opGt (hu64 hr)) sim_cmp (pv_len z_len (pvs_cons (pv_var 0) (pvs_nil))) (pv_glob (by rfl) g_MOST_CODES.1 g_MOST_CODES.2) (nomark _))))) (pzs_one (pz_ret (pv_bl))) (pzs_nil)) (pzs_cons (pz_if (PBw.pb (pbw_or (pb_not (pb_val (pv_all rfl z_all (pvs_cons (pv_lc [("one", 2)] rfl sc_are_codes.nd (pit_val (pv_var 0)) (blkOk_by (N := n_are_codes) (sc := defScope s_are_codes) (by decide +kernel)) (fun _ _ _ _ _ => pgt_name 2 sc_are_codes.nd) (fun _ _ _ _ _ => pbs_nil) (fun _ _ _ _ _ => pv_and (pv_cal c_is_code (hr.mono (by decide)) hgu (pvs_cons (pv_var 2) (pvs_nil))) (pv_one (pv_cmp (opLe (hu64 hr)) sim_cmp (pv_len z_len (pvs_cons (pv_var 2) (pvs_nil))) (pv_var 1) (nomark _))))) (pvs_nil))))) (pbw_or1 (pb_not (pb_val (pv_cal c_rises (hr.mono (by decide)) hgu (pvs_cons (pv_var 0) (pvs_nil)))))))) (pzs_one (pz_ret (pv_bl))) (pzs_nil)) (pzs_one (pz_ret (pv_not (pv_any rfl z_any (pvs_cons (pv_lc [("one", 2), ("later", 3)] rfl sc_are_codes.nd (pit_zip z_zip (pvs_cons (pv_var 0) (pvs_cons (pv_slice (pv_var 0) (pvo_some (pv_int)) (pvo_none)) (pvs_nil)))) (blkOk_by (N := n_are_codes) (sc := defScope s_are_codes) (by decide +kernel)) (fun _ _ _ _ _ => pgt_tup rfl (pgt_cons (pgt_name 2 sc_are_codes.nd) (pgt_cons (pgt_name 3 sc_are_codes.nd) (pgt_nil)))) (fun _ _ _ _ _ => pbs_nil) (fun _ _ _ _ _ => pv_starts (pv_var 3) (pv_var 2))) (pvs_nil))))))), ex_are_codes h⟩)
abbrev s_need_codes : Stmt := topS 11
abbrev n_need_codes : List Str := ["thing"]
theorem sc_need_codes : FnScope n_need_codes ["thing"] (defScope s_need_codes) := ⟨rfl, rfl, rfl, by decide +kernel, rfl, by decide +kernel, by decide +kernel⟩
theorem ok_need_codes {f : Addr} {dV : Value} {fd : FuncData} (F : FunV K "need_codes" "need_codes" s_need_codes dV f fd) (c_are_codes_1 : Cal P w K mg base 2 "are_codes" [.int 9] sp_are_codes) : FnG P w K mg base 3 f fd ["thing"] sp_need_codes :=
  okG F sc_need_codes len_need_codes mono_need_codes (fun cdv A outer s S0 H0 E Q Ep xs => by
    intro X hr hgu hE h
    exact ⟨b_need_codes, pzs_one (pz_if (pb_not (pb_val (pv_cal c_are_codes_1 (hr.mono (by decide)) hgu (pvs_cons (pv_var 0) (pvs_nil))))) (pzs_one (pz_never)) (pzs_nil)), ex_need_codes h⟩)
abbrev s_merged_by : Stmt := topS 12
abbrev n_merged_by : List Str := ["codes", "left", "many", "begin", "sign", "code"]
theorem sc_merged_by : FnScope n_merged_by ["codes"] (defScope s_merged_by) := ⟨rfl, rfl, rfl, by decide +kernel, rfl, by decide +kernel, by decide +kernel⟩
theorem ok_merged_by {f : Addr} {dV : Value} {fd : FuncData} (F : FunV K "merged_by" "merged_by" s_merged_by dV f fd) (z_all : mg "all" = none) (z_len : mg "len" = none) (z_range : mg "range" = none) (z_sorted : mg "sorted" = none) (z_tuple : mg "tuple" = none) (g_FIGURES : ∃ u, mg "FIGURES" = some u ∧ KRep K v_FIGURES u) (g_MOST_DEPTH : ∃ u, mg "MOST_DEPTH" = some u ∧ KRep K v_MOST_DEPTH u) : FnG P w K mg base 1 f fd ["codes"] sp_merged_by :=
  okG F sc_merged_by len_merged_by mono_merged_by (fun cdv A outer s S0 H0 E Q Ep xs => by
    intro X hr hgu hE h
    have hps : PassesOwn (model X.prog X.w) X.A X.env X.xe := passes_of rfl
    obtain ⟨u_FIGURES, g_FIGURES⟩ := g_FIGURES
    obtain ⟨u_MOST_DEPTH, g_MOST_DEPTH⟩ := g_MOST_DEPTH
    exact ⟨b_merged_by, pzs_cons (pz_set 1 sc_merged_by.nd (pv_dcT [("code", 5)] rfl sc_merged_by.nd (pit_val (pv_var 0)) (blkOk_by (N := n_merged_by) (sc := defScope s_merged_by) (by decide +kernel)) (fun _ _ _ _ _ => pgt_name 5 sc_merged_by.nd) (fun _ _ _ _ _ => pbs_nil) (fun _ _ _ _ _ => pv_var 5) (fun _ _ _ _ _ => pv_bl))) (pzs_cons (pz_beg [2, 3] (pz_for hps rfl (pit_range3 z_range (pvs_cons (pv_glob (by rfl) g_MOST_DEPTH.1 g_MOST_DEPTH.2) (pvs_cons (pv_int) (pvs_cons (pv_neg (pv_int)) (pvs_nil))))) (pgt_name 2 sc_merged_by.nd) (pzs_end [2, 3] (pzs_one (pz_beg [3] (pz_for hps rfl (pit_val (pv_lockD 1 (pv_scSorted [("code", 5)] rfl sc_merged_by.nd (hu64 hr) z_sorted (pit_keysL (pv_var 1)) (blkOk_by (N := n_merged_by) (sc := defScope s_merged_by) (by decide +kernel)) (fun _ _ _ _ _ => pgt_name 5 sc_merged_by.nd) (fun _ _ _ _ _ => pbs_one (pb_cmp (opEq (hu64 hr)) sim_eq (pv_len z_len (pvs_cons (pv_var 5) (pvs_nil))) (pv_var 2) (nomark _))) (fun _ _ _ _ _ => pv_slice (pv_var 5) (pvo_none) (pvo_some (pv_neg (pv_int))))))) (pgt_name 3 sc_merged_by.nd) (pzs_end [3] (pzs_one (pz_if (pb_val (pv_all rfl z_all (pvs_cons (pv_lc [("sign", 4)] rfl sc_merged_by.nd (pit_val (pv_glob (by rfl) g_FIGURES.1 g_FIGURES.2)) (blkOk_by (N := n_merged_by) (sc := defScope s_merged_by) (by decide +kernel)) (fun _ _ _ _ _ => pgt_name 4 sc_merged_by.nd) (fun _ _ _ _ _ => pbs_nil) (fun _ _ _ _ _ => pv_cmp (opIn2 (hu65 hr)) sim_in2 (pv_add (pv_var 3) (pv_var 4)) (pv_var 1) (by rfl))) (pvs_nil)))) (pzs_cons (pz_for hps rfl (pit_val (pv_glob (by rfl) g_FIGURES.1 g_FIGURES.2)) (pgt_name 4 sc_merged_by.nd) (pzs_one (pz_expr (pv_popK (pv_var 1) (pv_add (pv_var 3) (pv_var 4)))))) (pzs_one (pz_putG (hu64 hr) (pv_bl) (pv_var 1) (pv_var 3)))) (pzs_nil)))))))))) (pzs_one (pz_ret (pv_tupleOf z_tuple (pvs_cons (pv_sortedDL (hu64 hr) rfl z_sorted (pvs_cons (pv_var 1) (pvs_nil))) (pvs_nil)))))), ex_merged_by h⟩)
abbrev s_has : Stmt := topS 13
abbrev n_has : List Str := ["codes", "code", "many"]
theorem sc_has : FnScope n_has ["codes", "code"] (defScope s_has) := ⟨rfl, rfl, rfl, by decide +kernel, rfl, by decide +kernel, by decide +kernel⟩
theorem ok_has {f : Addr} {dV : Value} {fd : FuncData} (F : FunV K "has" "has" s_has dV f fd) (z_any : mg "any" = none) (z_len : mg "len" = none) (z_range : mg "range" = none) : FnG P w K mg base 1 f fd ["codes", "code"] sp_has :=
  okG F sc_has len_has mono_has (fun cdv A outer s S0 H0 E Q Ep xs => by
    intro X hr hgu hE h
    exact ⟨b_has, pzs_one (pz_ret (pv_any rfl z_any (pvs_cons (pv_lc [("many", 2)] rfl sc_has.nd (pit_range1 z_range (pvs_cons (pv_add (pv_len z_len (pvs_cons (pv_var 1) (pvs_nil))) (pv_int)) (pvs_nil))) (blkOk_by (N := n_has) (sc := defScope s_has) (by decide +kernel)) (fun _ _ _ _ _ => pgt_name 2 sc_has.nd) (fun _ _ _ _ _ => pbs_nil) (fun _ _ _ _ _ => pv_cmp (opIn2 (hu65 hr)) sim_in2 (pv_slice (pv_var 1) (pvo_none) (pvo_some (pv_var 2))) (pv_var 0) (by rfl))) (pvs_nil)))), ex_has h⟩)
abbrev s_common_by : Stmt := topS 14
abbrev n_common_by : List Str := ["codes", "other", "mine", "its", "found", "code"]
theorem sc_common_by : FnScope n_common_by ["codes", "other"] (defScope s_common_by) := ⟨rfl, rfl, rfl, by decide +kernel, rfl, by decide +kernel, by decide +kernel⟩
theorem ok_common_by {f : Addr} {dV : Value} {fd : FuncData} (F : FunV K "common_by" "common_by" s_common_by dV f fd) (c_has : Cal P w K mg base 1 "has" [] sp_has) (c_merged_by : Cal P w K mg base 1 "merged_by" [] sp_merged_by) : FnG P w K mg base 2 f fd ["codes", "other"] sp_common_by :=
  okG F sc_common_by len_common_by mono_common_by (fun cdv A outer s S0 H0 E Q Ep xs => by
    intro X hr hgu hE h
    exact ⟨b_common_by, pzs_cons (pz_tgt (t := .tp [.nm 2, .nm 3]) (pv_tup (pvs_cons (pv_dc [("code", 5)] rfl sc_common_by.nd (pit_val (pv_var 0)) (blkOk_by (N := n_common_by) (sc := defScope s_common_by) (by decide +kernel)) (fun _ _ _ _ _ => pgt_name 5 sc_common_by.nd) (fun _ _ _ _ _ => pbs_nil) (fun _ _ _ _ _ => pv_var 5) (fun _ _ _ _ _ => pv_bl)) (pvs_cons (pv_dc [("code", 5)] rfl sc_common_by.nd (pit_val (pv_var 1)) (blkOk_by (N := n_common_by) (sc := defScope s_common_by) (by decide +kernel)) (fun _ _ _ _ _ => pgt_name 5 sc_common_by.nd) (fun _ _ _ _ _ => pbs_nil) (fun _ _ _ _ _ => pv_var 5) (fun _ _ _ _ _ => pv_bl)) (pvs_nil)))) (pgt_tup rfl (pgt_cons (pgt_name 2 sc_common_by.nd) (pgt_cons (pgt_name 3 sc_common_by.nd) (pgt_nil))))) (pzs_cons (pz_set 4 sc_common_by.nd (pv_add (pv_lc [("code", 5)] rfl sc_common_by.nd (pit_val (pv_var 0)) (blkOk_by (N := n_common_by) (sc := defScope s_common_by) (by decide +kernel)) (fun _ _ _ _ _ => pgt_name 5 sc_common_by.nd) (fun _ _ _ _ _ => pbs_one (pb_val (pv_cal c_has (hr.mono (by decide)) hgu (pvs_cons (pv_var 3) (pvs_cons (pv_var 5) (pvs_nil)))))) (fun _ _ _ _ _ => pv_var 5)) (pv_lc [("code", 5)] rfl sc_common_by.nd (pit_val (pv_var 1)) (blkOk_by (N := n_common_by) (sc := defScope s_common_by) (by decide +kernel)) (fun _ _ _ _ _ => pgt_name 5 sc_common_by.nd) (fun _ _ _ _ _ => pbs_one (pb_val (pv_cal c_has (hr.mono (by decide)) hgu (pvs_cons (pv_var 2) (pvs_cons (pv_var 5) (pvs_nil)))))) (fun _ _ _ _ _ => pv_var 5)))) (pzs_one (pz_ret (pv_cal c_merged_by (hr.mono (by decide)) hgu (pvs_cons (pv_var 4) (pvs_nil)))))), ex_common_by h⟩)
abbrev s_less_by : Stmt := topS 15
abbrev n_less_by : List Str := ["code", "other", "within", "one", "sign"]
theorem sc_less_by : FnScope n_less_by ["code", "other"] (defScope s_less_by) := ⟨rfl, rfl, rfl, by decide +kernel, rfl, by decide +kernel, by decide +kernel⟩
theorem ok_less_by {f : Addr} {dV : Value} {fd : FuncData} (F : FunV K "less_by" "less_by" s_less_by dV f fd) (hb : Binds K fd ["code", "other"] []) (hf : mg "less_by" = some (.ref f)) (g_FIGURES : ∃ u, mg "FIGURES" = some u ∧ KRep K v_FIGURES u) (c_has : Cal P w K mg base 1 "has" [] sp_has) : ∀ n, FnG P w K mg base (2 + n) f fd ["code", "other"] (sp_less_by n)
  | 0 => fng_never
  | n + 1 => okG F sc_less_by (len_less_by (n + 1)) (mono_less_by (n + 1)) (fun cdv A outer s S0 H0 E Q Ep xs => by
    intro X hr hgu hE h
    have c_less_by : Cal P w K mg base (2 + n) "less_by" [] (sp_less_by n) := ⟨⟨f, _, _, [], [], hf, F.kp, hb, .nil, fun _ _ => rfl, ok_less_by F hb hf g_FIGURES c_has n⟩⟩
    obtain ⟨u_FIGURES, g_FIGURES⟩ := g_FIGURES
    exact ⟨b_less_by n, pzs_cons (pz_if (pb_val (pv_cal c_has (hr.mono (by simp only [Nat.add_eq]; omega)) hgu (pvs_cons (pv_dc [("one", 3)] rfl sc_less_by.nd (pit_val (pv_var 1)) (blkOk_by (N := n_less_by) (sc := defScope s_less_by) (by decide +kernel)) (fun _ _ _ _ _ => pgt_name 3 sc_less_by.nd) (fun _ _ _ _ _ => pbs_nil) (fun _ _ _ _ _ => pv_var 3) (fun _ _ _ _ _ => pv_bl)) (pvs_cons (pv_var 0) (pvs_nil))))) (pzs_one (pz_ret (pv_lst (pvs_nil)))) (pzs_nil)) (pzs_cons (pz_set 2 sc_less_by.nd (pv_lc [("one", 3)] rfl sc_less_by.nd (pit_val (pv_var 1)) (blkOk_by (N := n_less_by) (sc := defScope s_less_by) (by decide +kernel)) (fun _ _ _ _ _ => pgt_name 3 sc_less_by.nd) (fun _ _ _ _ _ => pbs_one (pb_val (pv_starts (pv_var 3) (pv_var 0)))) (fun _ _ _ _ _ => pv_var 3))) (pzs_cons (pz_if (pb_cmp (opEq (hu64 hr)) sim_eq (pv_var 2) (pv_lst (pvs_nil)) (nomark _)) (pzs_one (pz_ret (pv_lst (pvs_cons (pv_var 0) (pvs_nil))))) (pzs_nil)) (pzs_one (pz_ret (pv_lc2 [("sign", 4), ("one", 3)] [3] rfl sc_less_by.nd (pit_val (pv_glob (by rfl) g_FIGURES.1 g_FIGURES.2)) (blkOk_by (N := n_less_by) (sc := defScope s_less_by) (by decide +kernel)) (fun _ _ _ _ _ => pgt_name 4 sc_less_by.nd) (fun _ _ _ _ _ => pbs_nil) (fun _ _ _ _ _ => pit_val (pv_cal c_less_by (hr.mono (by simp only [Nat.add_eq]; omega)) hgu (pvs_cons (pv_add (pv_var 0) (pv_var 4)) (pvs_cons (pv_var 2) (pvs_nil))))) (fun _ _ _ _ _ => pgt_name 3 sc_less_by.nd) (fun _ _ _ _ _ => pbs_nil) (fun _ _ _ _ _ => pv_var 3)))))), ex_less_by h⟩)
abbrev s_without_by : Stmt := topS 16
abbrev n_without_by : List Str := ["codes", "other", "code", "one"]
theorem sc_without_by : FnScope n_without_by ["codes", "other"] (defScope s_without_by) := ⟨rfl, rfl, rfl, by decide +kernel, rfl, by decide +kernel, by decide +kernel⟩
theorem ok_without_by {f : Addr} {dV : Value} {fd : FuncData} (F : FunV K "without_by" "without_by" s_without_by dV f fd) (c_less_by : Cal P w K mg base 13 "less_by" [] (sp_less_by 11)) (c_merged_by : Cal P w K mg base 1 "merged_by" [] sp_merged_by) : FnG P w K mg base 14 f fd ["codes", "other"] sp_without_by :=
  okG F sc_without_by len_without_by mono_without_by (fun cdv A outer s S0 H0 E Q Ep xs => by
    intro X hr hgu hE h
    exact ⟨b_without_by, pzs_one (pz_ret (pv_cal c_merged_by (hr.mono (by decide)) hgu (pvs_cons (pv_lc2 [("code", 2), ("one", 3)] [3] rfl sc_without_by.nd (pit_val (pv_var 0)) (blkOk_by (N := n_without_by) (sc := defScope s_without_by) (by decide +kernel)) (fun _ _ _ _ _ => pgt_name 2 sc_without_by.nd) (fun _ _ _ _ _ => pbs_nil) (fun _ _ _ _ _ => pit_val (pv_cal c_less_by (hr.mono (by decide)) hgu (pvs_cons (pv_var 2) (pvs_cons (pv_var 1) (pvs_nil))))) (fun _ _ _ _ _ => pgt_name 3 sc_without_by.nd) (fun _ _ _ _ _ => pbs_nil) (fun _ _ _ _ _ => pv_var 3)) (pvs_nil)))), ex_without_by h⟩)
abbrev s_merged : Stmt := topS 17
abbrev n_merged : List Str := ["codes"]
theorem sc_merged : FnScope n_merged ["codes"] (defScope s_merged) := ⟨rfl, rfl, rfl, by decide +kernel, rfl, by decide +kernel, by decide +kernel⟩
theorem ok_merged {f : Addr} {dV : Value} {fd : FuncData} (F : FunV K "merged" "merged" s_merged dV f fd) (c_merged_by : Cal P w K mg base 1 "merged_by" [] sp_merged_by) (c_need_codes : Cal P w K mg base 3 "need_codes" [] sp_need_codes) : FnG P w K mg base 4 f fd ["codes"] sp_merged :=
  okG F sc_merged len_merged mono_merged (fun cdv A outer s S0 H0 E Q Ep xs => by
    intro X hr hgu hE h
    exact ⟨b_merged, pzs_cons (pz_expr (pv_cal c_need_codes (hr.mono (by decide)) hgu (pvs_cons (pv_var 0) (pvs_nil)))) (pzs_one (pz_ret (pv_cal c_merged_by (hr.mono (by decide)) hgu (pvs_cons (pv_var 0) (pvs_nil))))), ex_merged h⟩)
abbrev s_need_both : Stmt := topS 18
abbrev n_need_both : List Str := ["codes", "other"]
theorem sc_need_both : FnScope n_need_both ["codes", "other"] (defScope s_need_both) := ⟨rfl, rfl, rfl, by decide +kernel, rfl, by decide +kernel, by decide +kernel⟩
theorem ok_need_both {f : Addr} {dV : Value} {fd : FuncData} (F : FunV K "need_both" "need_both" s_need_both dV f fd) (c_need_codes : Cal P w K mg base 3 "need_codes" [] sp_need_codes) : FnG P w K mg base 4 f fd ["codes", "other"] sp_need_both :=
  okG F sc_need_both len_need_both mono_need_both (fun cdv A outer s S0 H0 E Q Ep xs => by
    intro X hr hgu hE h
    exact ⟨b_need_both, pzs_cons (pz_expr (pv_cal c_need_codes (hr.mono (by decide)) hgu (pvs_cons (pv_var 0) (pvs_nil)))) (pzs_one (pz_expr (pv_cal c_need_codes (hr.mono (by decide)) hgu (pvs_cons (pv_var 1) (pvs_nil))))), ex_need_both h⟩)
abbrev s_common : Stmt := topS 19
abbrev n_common : List Str := ["codes", "other"]
theorem sc_common : FnScope n_common ["codes", "other"] (defScope s_common) := ⟨rfl, rfl, rfl, by decide +kernel, rfl, by decide +kernel, by decide +kernel⟩
theorem ok_common {f : Addr} {dV : Value} {fd : FuncData} (F : FunV K "common" "common" s_common dV f fd) (c_common_by : Cal P w K mg base 2 "common_by" [] sp_common_by) (c_need_both : Cal P w K mg base 4 "need_both" [] sp_need_both) : FnG P w K mg base 5 f fd ["codes", "other"] sp_common :=
  okG F sc_common len_common mono_common (fun cdv A outer s S0 H0 E Q Ep xs => by
    intro X hr hgu hE h
    exact ⟨b_common, pzs_cons (pz_expr (pv_cal c_need_both (hr.mono (by decide)) hgu (pvs_cons (pv_var 0) (pvs_cons (pv_var 1) (pvs_nil))))) (pzs_one (pz_ret (pv_cal c_common_by (hr.mono (by decide)) hgu (pvs_cons (pv_var 0) (pvs_cons (pv_var 1) (pvs_nil)))))), ex_common h⟩)
abbrev s_without : Stmt := topS 20
abbrev n_without : List Str := ["codes", "other"]
theorem sc_without : FnScope n_without ["codes", "other"] (defScope s_without) := ⟨rfl, rfl, rfl, by decide +kernel, rfl, by decide +kernel, by decide +kernel⟩
theorem ok_without {f : Addr} {dV : Value} {fd : FuncData} (F : FunV K "without" "without" s_without dV f fd) (c_need_both : Cal P w K mg base 4 "need_both" [] sp_need_both) (c_without_by : Cal P w K mg base 14 "without_by" [] sp_without_by) : FnG P w K mg base 15 f fd ["codes", "other"] sp_without :=
  okG F sc_without len_without mono_without (fun cdv A outer s S0 H0 E Q Ep xs => by
    intro X hr hgu hE h
    exact ⟨b_without, pzs_cons (pz_expr (pv_cal c_need_both (hr.mono (by decide)) hgu (pvs_cons (pv_var 0) (pvs_cons (pv_var 1) (pvs_nil))))) (pzs_one (pz_ret (pv_cal c_without_by (hr.mono (by decide)) hgu (pvs_cons (pv_var 0) (pvs_cons (pv_var 1) (pvs_nil)))))), ex_without h⟩)
abbrev s__law_cell_at : Stmt := topS 22
abbrev n__law_cell_at : List Str := ["_law_script", "_law_k"]
theorem sc__law_cell_at : FnScope n__law_cell_at ["_law_script", "_law_k"] (defScope s__law_cell_at) := ⟨rfl, rfl, rfl, by decide +kernel, rfl, by decide +kernel, by decide +kernel⟩
theorem ok__law_cell_at {f : Addr} {dV : Value} {fd : FuncData} (F : FunV K "_law_cell_at" "_law_cell_at" s__law_cell_at dV f fd) (z_len : mg "len" = none) : FnG P w K mg base 1 f fd ["_law_script", "_law_k"] sp__law_cell_at :=
  okG F sc__law_cell_at len__law_cell_at mono__law_cell_at (fun cdv A outer s S0 H0 E Q Ep xs => by
    intro X hr hgu hE h
    exact ⟨b__law_cell_at, pzs_cons (pz_if (pb_cmp (opLt (hu64 hr)) sim_cmp (pv_var 1) (pv_len z_len (pvs_cons (pv_var 0) (pvs_nil))) (nomark _)) (pzs_one (pz_ret (pv_ix (pv_var 0) (pv_var 1)))) (pzs_nil)) (pzs_one (pz_ret (pv_int))), ex__law_cell_at h⟩)
abbrev s__law_state : Stmt := topS 23
abbrev n__law_state : List Str := ["_law_script", "_law_k", "_law_cell"]
theorem sc__law_state : FnScope n__law_state ["_law_script", "_law_k"] (defScope s__law_state) := ⟨rfl, rfl, rfl, by decide +kernel, rfl, by decide +kernel, by decide +kernel⟩
theorem ok__law_state {f : Addr} {dV : Value} {fd : FuncData} (F : FunV K "_law_state" "_law_state" s__law_state dV f fd) (z_max : mg "max" = none) (c__law_cell_at : Cal P w K mg base 1 "_law_cell_at" [] sp__law_cell_at) : FnG P w K mg base 2 f fd ["_law_script", "_law_k"] sp__law_state :=
  okG F sc__law_state len__law_state mono__law_state (fun cdv A outer s S0 H0 E Q Ep xs => by
    intro X hr hgu hE h
    exact ⟨b__law_state, pzs_cons (pz_set 2 sc__law_state.nd (pv_cal c__law_cell_at (hr.mono (by decide)) hgu (pvs_cons (pv_var 0) (pvs_cons (pv_var 1) (pvs_nil))))) (pzs_one (pz_ret (pv_lstT (pvs_cons (pv_max rfl z_max (pvs_cons (pv_int) (pvs_cons (pv_sub (pv_var 2) (pv_pow (pv_int) (pv_int))) (pvs_nil)))) (pvs_cons (pv_add (pv_mod (pv_var 2) (pv_int)) (pv_int)) (pvs_cons (pv_int) (pvs_nil))))))), ex__law_state h⟩)
abbrev s__law_choice : Stmt := topS 24
abbrev n__law_choice : List Str := ["_law_state_here", "_law_many", "_law_found", "_law_mixed"]
theorem sc__law_choice : FnScope n__law_choice ["_law_state_here", "_law_many"] (defScope s__law_choice) := ⟨rfl, rfl, rfl, by decide +kernel, rfl, by decide +kernel, by decide +kernel⟩
theorem ok__law_choice {f : Addr} {dV : Value} {fd : FuncData} (F : FunV K "_law_choice" "_law_choice" s__law_choice dV f fd) : FnG P w K mg base 1 f fd ["_law_state_here", "_law_many"] sp__law_choice :=
  okG F sc__law_choice len__law_choice mono__law_choice (fun cdv A outer s S0 H0 E Q Ep xs => by
    intro X hr hgu hE h
    exact ⟨b__law_choice, pzs_cons (pz_if (pb_cmp (opGt (hu64 hr)) sim_cmp (pv_ix (pv_var 0) (pv_int)) (pv_int) (nomark _)) (pzs_cons (pz_set 2 sc__law_choice.nd (pv_mod (pv_ix (pv_var 0) (pv_int)) (pv_var 1))) (pzs_cons (pz_setIx (pv_div (pv_ix (pv_var 0) (pv_int)) (pv_var 1)) (pv_var 0) (pv_int)) (pzs_one (pz_ret (pv_var 2))))) (pzs_nil)) (pzs_cons (pz_setIx (pv_add (pv_ix (pv_var 0) (pv_int)) (pv_int)) (pv_var 0) (pv_int)) (pzs_cons (pz_setIx (pv_mod (pv_add (pv_add (pv_mul (pv_ix (pv_var 0) (pv_int)) (pv_int)) (pv_int)) (pv_ix (pv_var 0) (pv_int))) (pv_int)) (pv_var 0) (pv_int)) (pzs_cons (pz_set 3 sc__law_choice.nd (pv_mod (pv_add (pv_add (pv_mul (pv_ix (pv_var 0) (pv_int)) (pv_ix (pv_var 0) (pv_int))) (pv_mul (pv_int) (pv_ix (pv_var 0) (pv_int)))) (pv_int)) (pv_int))) (pzs_cons (pz_set 3 sc__law_choice.nd (pv_mod (pv_add (pv_mul (pv_var 3) (pv_var 3)) (pv_mul (pv_int) (pv_var 3))) (pv_int))) (pzs_one (pz_ret (pv_mod (pv_div (pv_var 3) (pv_int)) (pv_var 1)))))))), ex__law_choice h⟩)
abbrev s__law_same : Stmt := topS 25
abbrev n__law_same : List Str := ["_law_found", "_law_due"]
theorem sc__law_same : FnScope n__law_same ["_law_found", "_law_due"] (defScope s__law_same) := ⟨rfl, rfl, rfl, by decide +kernel, rfl, by decide +kernel, by decide +kernel⟩
theorem ok__law_same {f : Addr} {dV : Value} {fd : FuncData} (F : FunV K "_law_same" "_law_same" s__law_same dV f fd) (z_repr : mg "repr" = none) : FnG P w K mg base 1 f fd ["_law_found", "_law_due"] sp__law_same :=
  okG F sc__law_same len__law_same mono__law_same (fun cdv A outer s S0 H0 E Q Ep xs => by
    intro X hr hgu hE h
    exact ⟨b__law_same, pzs_one (pz_ret (pv_cmp (opEq (hu64 hr)) sim_eq (pv_repr hgu (hu64 hr) z_repr (pvs_cons (pv_var 0) (pvs_nil))) (pv_repr hgu (hu64 hr) z_repr (pvs_cons (pv_var 1) (pvs_nil))) (nomark _))), ex__law_same h⟩)
abbrev s__law_code : Stmt := topS 26
abbrev n__law_code : List Str := ["_law_state_here", "_law_most", "_law_lap"]
theorem sc__law_code : FnScope n__law_code ["_law_state_here", "_law_most"] (defScope s__law_code) := ⟨rfl, rfl, rfl, by decide +kernel, rfl, by decide +kernel, by decide +kernel⟩
theorem ok__law_code {f : Addr} {dV : Value} {fd : FuncData} (F : FunV K "_law_code" "_law_code" s__law_code dV f fd) (z_range : mg "range" = none) (c__law_choice : Cal P w K mg base 1 "_law_choice" [] sp__law_choice) : FnG P w K mg base 2 f fd ["_law_state_here", "_law_most"] sp__law_code :=
  okG F sc__law_code len__law_code mono__law_code (fun cdv A outer s S0 H0 E Q Ep xs => by
    intro X hr hgu hE h
    exact ⟨b__law_code, pzs_one (pz_ret (pv_join (pv_str) (pv_lc [("_law_lap", 2)] rfl sc__law_code.nd (pit_range1 z_range (pvs_cons (pv_cal c__law_choice (hr.mono (by decide)) hgu (pvs_cons (pv_var 0) (pvs_cons (pv_add (pv_var 1) (pv_int)) (pvs_nil)))) (pvs_nil))) (blkOk_by (N := n__law_code) (sc := defScope s__law_code) (by decide +kernel)) (fun _ _ _ _ _ => pgt_name 2 sc__law_code.nd) (fun _ _ _ _ _ => pbs_nil) (fun _ _ _ _ _ => pv_ix (pv_str) (pv_cal c__law_choice (hr.mono (by decide)) hgu (pvs_cons (pv_var 0) (pvs_cons (pv_int) (pvs_nil)))))))), ex__law_code h⟩)
abbrev s__law_codes : Stmt := topS 27
abbrev n__law_codes : List Str := ["_law_state_here", "_law_most", "_law_found", "_law_lap", "_law_code_here", "_law_begin", "_law_one", "_law_sign"]
theorem sc__law_codes : FnScope n__law_codes ["_law_state_here", "_law_most"] (defScope s__law_codes) := ⟨rfl, rfl, rfl, by decide +kernel, rfl, by decide +kernel, by decide +kernel⟩
theorem ok__law_codes {f : Addr} {dV : Value} {fd : FuncData} (F : FunV K "_law_codes" "_law_codes" s__law_codes dV f fd) (z_range : mg "range" = none) (z_sorted : mg "sorted" = none) (z_tuple : mg "tuple" = none) (c__law_choice : Cal P w K mg base 1 "_law_choice" [] sp__law_choice) (c__law_code : Cal P w K mg base 2 "_law_code" [] sp__law_code) : FnG P w K mg base 3 f fd ["_law_state_here", "_law_most"] sp__law_codes :=
  okG F sc__law_codes len__law_codes mono__law_codes (fun cdv A outer s S0 H0 E Q Ep xs => by
    intro X hr hgu hE h
    have hps : PassesOwn (model X.prog X.w) X.A X.env X.xe := passes_of rfl
    exact ⟨b__law_codes, pzs_cons (pz_set 2 sc__law_codes.nd (pv_lst (pvs_nil))) (pzs_cons (pz_beg [3, 4] (pz_for hps rfl (pit_range1 z_range (pvs_cons (pv_cal c__law_choice (hr.mono (by decide)) hgu (pvs_cons (pv_var 0) (pvs_cons (pv_int) (pvs_nil)))) (pvs_nil))) (pgt_name 3 sc__law_codes.nd) (pzs_end [3, 4] (pzs_cons (pz_set 4 sc__law_codes.nd (pv_cal c__law_code (hr.mono (by decide)) hgu (pvs_cons (pv_var 0) (pvs_cons (pv_add (pv_int) (pv_cal c__law_choice (hr.mono (by decide)) hgu (pvs_cons (pv_var 0) (pvs_cons (pv_var 1) (pvs_nil))))) (pvs_nil))))) (pzs_one (pz_if (PBw.pb (pbw_or (pb_cmp (opNe (hu64 hr)) sim_ne (pv_var 4) (pv_str) (nomark _)) (pbw_or1 (pb_cmp (opEq (hu64 hr)) sim_eq (pv_cal c__law_choice (hr.mono (by decide)) hgu (pvs_cons (pv_var 0) (pvs_cons (pv_int) (pvs_nil)))) (pv_int) (nomark _))))) (pzs_one (pz_set 2 sc__law_codes.nd (pv_add (pv_lc [("_law_one", 6)] rfl sc__law_codes.nd (pit_val (pv_var 2)) (blkOk_by (N := n__law_codes) (sc := defScope s__law_codes) (by decide +kernel)) (fun _ _ _ _ _ => pgt_name 6 sc__law_codes.nd) (fun _ _ _ _ _ => pbs_one (PBw.pb (pbw_and (pb_not (pb_val (pv_starts (pv_var 6) (pv_var 4)))) (pbw_and1 (pb_not (pb_val (pv_starts (pv_var 4) (pv_var 6)))))))) (fun _ _ _ _ _ => pv_var 6)) (pv_lst (pvs_cons (pv_var 4) (pvs_nil)))))) (pzs_nil))))))) (pzs_cons (pz_beg [3, 5] (pz_for hps rfl (pit_range1 z_range (pvs_cons (pv_cal c__law_choice (hr.mono (by decide)) hgu (pvs_cons (pv_var 0) (pvs_cons (pv_int) (pvs_nil)))) (pvs_nil))) (pgt_name 3 sc__law_codes.nd) (pzs_end [3, 5] (pzs_cons (pz_set 5 sc__law_codes.nd (pv_cal c__law_code (hr.mono (by decide)) hgu (pvs_cons (pv_var 0) (pvs_cons (pv_sub (pv_var 1) (pv_int)) (pvs_nil))))) (pzs_cons (pz_setLc 2 [("_law_one", 6)] rfl sc__law_codes.nd (pit_val (pv_var 2)) (blkOk_by (N := n__law_codes) (sc := defScope s__law_codes) (by decide +kernel)) (fun _ _ _ _ _ => pgt_name 6 sc__law_codes.nd) (fun _ _ _ _ _ => pbs_one (PBw.pb (pbw_and (pb_not (pb_val (pv_starts (pv_var 6) (pv_var 5)))) (pbw_and1 (pb_not (pb_val (pv_starts (pv_var 5) (pv_var 6)))))))) (fun _ _ _ _ _ => pv_var 6) (sw_true rfl rfl rfl (by decide +kernel))) (pzs_one (pz_set 2 sc__law_codes.nd (pv_add (pv_var 2) (pv_lc [("_law_sign", 7)] rfl sc__law_codes.nd (pit_val (pv_str)) (blkOk_by (N := n__law_codes) (sc := defScope s__law_codes) (by decide +kernel)) (fun _ _ _ _ _ => pgt_name 7 sc__law_codes.nd) (fun _ _ _ _ _ => pbs_nil) (fun _ _ _ _ _ => pv_add (pv_var 5) (pv_var 7))))))))))) (pzs_one (pz_ret (pv_tupleOf z_tuple (pvs_cons (pv_sorted (hu64 hr) z_sorted (pvs_cons (pv_var 2) (pvs_nil))) (pvs_nil))))))), ex__law_codes h⟩)
abbrev s__law_fine : Stmt := topS 28
abbrev n__law_fine : List Str := ["_law_codes_here", "_law_depth", "_law_found", "_law_left", "_law_code_here", "_law_sign"]
theorem sc__law_fine : FnScope n__law_fine ["_law_codes_here", "_law_depth"] (defScope s__law_fine) := ⟨rfl, rfl, rfl, by decide +kernel, rfl, by decide +kernel, by decide +kernel⟩
theorem ok__law_fine {f : Addr} {dV : Value} {fd : FuncData} (F : FunV K "_law_fine" "_law_fine" s__law_fine dV f fd) (z_len : mg "len" = none) (z_list : mg "list" = none) : FnG P w K mg base 1 f fd ["_law_codes_here", "_law_depth"] sp__law_fine :=
  okG F sc__law_fine len__law_fine mono__law_fine (fun cdv A outer s S0 H0 E Q Ep xs => by
    intro X hr hgu hE h
    have hps : PassesOwn (model X.prog X.w) X.A X.env X.xe := passes_of rfl
    exact ⟨b__law_fine, pzs_cons (pz_par 2 3 rfl sc__law_fine.nd (pvs_cons (pv_dictT) (pvs_cons (pv_listOfT z_list (pvs_cons (pv_var 0) (pvs_nil))) (pvs_nil)))) (pzs_cons (pz_beg [4] (pz_while hps (pb_cmp (opNe (hu64 hr)) sim_ne (pv_var 3) (pv_lst (pvs_nil)) (nomark _)) (pzs_end [4] (pzs_cons (pz_set 4 sc__law_fine.nd (pv_pop (pv_var 3))) (pzs_one (pz_if (pb_cmp (opEq (hu64 hr)) sim_eq (pv_len z_len (pvs_cons (pv_var 4) (pvs_nil))) (pv_var 1) (nomark _)) (pzs_one (pz_putG (hu64 hr) (pv_bl) (pv_var 2) (pv_var 4))) (pzs_one (pz_expr (pv_extend (pv_var 3) (pvs_cons (pv_lc [("_law_sign", 5)] rfl sc__law_fine.nd (pit_val (pv_str)) (blkOk_by (N := n__law_fine) (sc := defScope s__law_fine) (by decide +kernel)) (fun _ _ _ _ _ => pgt_name 5 sc__law_fine.nd) (fun _ _ _ _ _ => pbs_nil) (fun _ _ _ _ _ => pv_add (pv_var 4) (pv_var 5))) (pvs_nil))))))))))) (pzs_one (pz_ret (pv_var 2)))), ex__law_fine h⟩)
abbrev s__law_fewest : Stmt := topS 29
abbrev n__law_fewest : List Str := ["_law_fine_here", "_law_depth", "_law_found", "_law_left", "_law_code_here", "_law_many", "_law_one", "_law_sign"]
theorem sc__law_fewest : FnScope n__law_fewest ["_law_fine_here", "_law_depth"] (defScope s__law_fewest) := ⟨rfl, rfl, rfl, by decide +kernel, rfl, by decide +kernel, by decide +kernel⟩
theorem ok__law_fewest {f : Addr} {dV : Value} {fd : FuncData} (F : FunV K "_law_fewest" "_law_fewest" s__law_fewest dV f fd) (z_len : mg "len" = none) (z_sorted : mg "sorted" = none) (z_tuple : mg "tuple" = none) : FnG P w K mg base 1 f fd ["_law_fine_here", "_law_depth"] sp__law_fewest :=
  okG F sc__law_fewest len__law_fewest mono__law_fewest (fun cdv A outer s S0 H0 E Q Ep xs => by
    intro X hr hgu hE h
    have hps : PassesOwn (model X.prog X.w) X.A X.env X.xe := passes_of rfl
    exact ⟨b__law_fewest, pzs_cons (pz_par 2 3 rfl sc__law_fewest.nd (pvs_cons (pv_lstT (pvs_nil)) (pvs_cons (pv_lstT (pvs_cons (pv_str) (pvs_nil))) (pvs_nil)))) (pzs_cons (pz_beg [4, 5] (pz_while hps (pb_cmp (opNe (hu64 hr)) sim_ne (pv_var 3) (pv_lst (pvs_nil)) (nomark _)) (pzs_end [4, 5] (pzs_cons (pz_set 4 sc__law_fewest.nd (pv_pop (pv_var 3))) (pzs_cons (pz_set 5 sc__law_fewest.nd (pv_len z_len (pvs_cons (pv_lockD 0 (pv_lc [("_law_one", 6)] rfl sc__law_fewest.nd (pit_keysL (pv_var 0)) (blkOk_by (N := n__law_fewest) (sc := defScope s__law_fewest) (by decide +kernel)) (fun _ _ _ _ _ => pgt_name 6 sc__law_fewest.nd) (fun _ _ _ _ _ => pbs_one (pb_val (pv_starts (pv_var 6) (pv_var 4)))) (fun _ _ _ _ _ => pv_int))) (pvs_nil)))) (pzs_one (pz_if (pb_cmp (opEq (hu64 hr)) sim_eq (pv_var 5) (pv_shl (pv_int) (pv_mul (pv_int) (pv_sub (pv_var 1) (pv_len z_len (pvs_cons (pv_var 4) (pvs_nil)))))) (nomark _)) (pzs_one (pz_expr (pv_append (pv_var 2) (pvs_cons (pv_var 4) (pvs_nil))))) (pzs_one (pz_if (pb_cmp (opGt (hu64 hr)) sim_cmp (pv_var 5) (pv_int) (nomark _)) (pzs_one (pz_expr (pv_extend (pv_var 3) (pvs_cons (pv_lc [("_law_sign", 7)] rfl sc__law_fewest.nd (pit_val (pv_str)) (blkOk_by (N := n__law_fewest) (sc := defScope s__law_fewest) (by decide +kernel)) (fun _ _ _ _ _ => pgt_name 7 sc__law_fewest.nd) (fun _ _ _ _ _ => pbs_nil) (fun _ _ _ _ _ => pv_add (pv_var 4) (pv_var 7))) (pvs_nil))))) (pzs_nil)))))))))) (pzs_one (pz_ret (pv_tupleOf z_tuple (pvs_cons (pv_sorted (hu64 hr) z_sorted (pvs_cons (pv_var 2) (pvs_nil))) (pvs_nil)))))), ex__law_fewest h⟩)
abbrev s_law : Stmt := topS 30
abbrev n_law : List Str := ["_law_script", "_law_k", "_law_state_here", "_law_one", "_law_mate", "_law_stays", "_law_fine_here", "_law_its", "_law_due", "_law_lap", "_law_found", "_law_every", "_law_code_here"]
theorem sc_law : FnScope n_law ["_law_script"] (defScope s_law) := ⟨rfl, rfl, rfl, by decide +kernel, rfl, by decide +kernel, by decide +kernel⟩
set_option maxHeartbeats 1000000 in
theorem ok_law {f : Addr} {dV : Value} {fd : FuncData} (F : FunV K "law" "law" s_law dV f fd) (z_dict : mg "dict" = none) (z_len : mg "len" = none) (z_max : mg "max" = none) (z_min : mg "min" = none) (z_range : mg "range" = none) (z_repr : mg "repr" = none) (z_sorted : mg "sorted" = none) (z_tuple : mg "tuple" = none) (c__law_choice : Cal P w K mg base 1 "_law_choice" [] sp__law_choice) (c__law_codes : Cal P w K mg base 3 "_law_codes" [] sp__law_codes) (c__law_fewest : Cal P w K mg base 1 "_law_fewest" [] sp__law_fewest) (c__law_fine : Cal P w K mg base 1 "_law_fine" [] sp__law_fine) (c__law_same : Cal P w K mg base 1 "_law_same" [] sp__law_same) (c__law_state : Cal P w K mg base 2 "_law_state" [] sp__law_state) (c_common : Cal P w K mg base 5 "common" [] sp_common) (c_merged : Cal P w K mg base 4 "merged" [] sp_merged) (c_without : Cal P w K mg base 15 "without" [] sp_without) : FnG P w K mg base 16 f fd ["_law_script"] sp_law :=
  okG F sc_law len_law mono_law (fun cdv A outer s S0 H0 E Q Ep xs => by
    intro X hr hgu hE h
    have hps : PassesOwn (model X.prog X.w) X.A X.env X.xe := passes_of rfl
    exact ⟨b_law, pzs_cons (pz_beg [1, 2, 3, 4, 5, 6, 7, 8, 9, 10] (pz_for hps rfl (pit_range1 z_range (pvs_cons (pv_max rfl z_max (pvs_cons (pv_int) (pvs_cons (pv_min rfl z_min (pvs_cons (pv_len z_len (pvs_cons (pv_var 0) (pvs_nil))) (pvs_cons (pv_int) (pvs_nil)))) (pvs_nil)))) (pvs_nil))) (pgt_name 1 sc_law.nd) (pzs_end [1, 2, 3, 4, 5, 6, 7, 8, 9, 10] (pzs_cons (pz_set 2 sc_law.nd (pv_cal c__law_state (hr.mono (by decide)) hgu (pvs_cons (pv_var 0) (pvs_cons (pv_var 1) (pvs_nil))))) (pzs_cons (pz_set 3 sc_law.nd (pv_cal c__law_codes (hr.mono (by decide)) hgu (pvs_cons (pv_var 2) (pvs_cons (pv_int) (pvs_nil))))) (pzs_cons (pz_set 4 sc_law.nd (pv_ix (pv_lst (pvs_cons (pv_cal c__law_codes (hr.mono (by decide)) hgu (pvs_cons (pv_var 2) (pvs_cons (pv_int) (pvs_nil)))) (pvs_cons (pv_ev (pv_var 3)) (pvs_cons (pv_tup (pvs_nil)) (pvs_cons (pv_tup (pvs_cons (pv_str) (pvs_nil))) (pvs_cons (pv_var 3) (pvs_nil))))))) (pv_cal c__law_choice (hr.mono (by decide)) hgu (pvs_cons (pv_var 2) (pvs_cons (pv_int) (pvs_nil)))))) (pzs_cons (pz_tgt (t := .tp [.nm 5, .nm 6, .nm 7]) (pv_tup (pvs_cons (pv_repr hgu (hu64 hr) z_repr (pvs_cons (pv_tup (pvs_cons (pv_var 3) (pvs_cons (pv_var 4) (pvs_nil)))) (pvs_nil))) (pvs_cons (pv_cal c__law_fine (hr.mono (by decide)) hgu (pvs_cons (pv_var 3) (pvs_cons (pv_int) (pvs_nil)))) (pvs_cons (pv_cal c__law_fine (hr.mono (by decide)) hgu (pvs_cons (pv_var 4) (pvs_cons (pv_int) (pvs_nil)))) (pvs_nil))))) (pgt_tup rfl (pgt_cons (pgt_name 5 sc_law.nd) (pgt_cons (pgt_name 6 sc_law.nd) (pgt_cons (pgt_name 7 sc_law.nd) (pgt_nil)))))) (pzs_cons (pz_set 8 sc_law.nd (pv_lstT (pvs_cons (pv_cal c__law_fewest (hr.mono (by decide)) hgu (pvs_cons (pv_var 6) (pvs_cons (pv_int) (pvs_nil)))) (pvs_nil)))) (pzs_cons (pz_expr (pv_append (pv_var 8) (pvs_cons (pv_cal c__law_fewest (hr.mono (by decide)) hgu (pvs_cons (pv_dictOfT rfl z_dict (pvs_cons (pv_lockD 6 (pv_lc [("_law_code_here", 12)] rfl sc_law.nd (pit_keysL (pv_var 6)) (blkOk_by (N := n_law) (sc := defScope s_law) (by decide +kernel)) (fun _ _ _ _ _ => pgt_name 12 sc_law.nd) (fun _ _ _ _ _ => pbs_one (pb_cmp (opIn2 (hu65 hr)) sim_in2 (pv_var 12) (pv_var 7) (by rfl))) (fun _ _ _ _ _ => pv_tup (pvs_cons (pv_var 12) (pvs_cons (pv_bl) (pvs_nil)))))) (pvs_nil))) (pvs_cons (pv_int) (pvs_nil)))) (pvs_nil)))) (pzs_cons (pz_expr (pv_append (pv_var 8) (pvs_cons (pv_cal c__law_fewest (hr.mono (by decide)) hgu (pvs_cons (pv_dictOfT rfl z_dict (pvs_cons (pv_lockD 6 (pv_lc [("_law_code_here", 12)] rfl sc_law.nd (pit_keysL (pv_var 6)) (blkOk_by (N := n_law) (sc := defScope s_law) (by decide +kernel)) (fun _ _ _ _ _ => pgt_name 12 sc_law.nd) (fun _ _ _ _ _ => pbs_one (pb_cmp (opNotIn2 (hu65 hr)) sim_notIn2 (pv_var 12) (pv_var 7) (by rfl))) (fun _ _ _ _ _ => pv_tup (pvs_cons (pv_var 12) (pvs_cons (pv_bl) (pvs_nil)))))) (pvs_nil))) (pvs_cons (pv_int) (pvs_nil)))) (pvs_nil)))) (pzs_one (pz_beg [9, 10] (pz_for hps rfl (pit_range1 z_range (pvs_cons (pv_int) (pvs_nil))) (pgt_name 9 sc_law.nd) (pzs_end [9, 10] (pzs_cons (pz_set 10 sc_law.nd (pv_lst (pvs_cons (pv_cal c_merged (hr.mono (by decide)) hgu (pvs_cons (pv_var 3) (pvs_nil))) (pvs_cons (pv_cal c_common (hr.mono (by decide)) hgu (pvs_cons (pv_var 3) (pvs_cons (pv_var 4) (pvs_nil)))) (pvs_cons (pv_cal c_without (hr.mono (by decide)) hgu (pvs_cons (pv_var 3) (pvs_cons (pv_var 4) (pvs_nil)))) (pvs_nil)))))) (pzs_one (pz_if (PBw.pb (pbw_or (pb_not (pb_val (pv_cal c__law_same (hr.mono (by decide)) hgu (pvs_cons (pv_var 10) (pvs_cons (pv_var 8) (pvs_nil)))))) (pbw_or1 (pb_cmp (opNe (hu64 hr)) sim_ne (pv_repr hgu (hu64 hr) z_repr (pvs_cons (pv_tup (pvs_cons (pv_var 3) (pvs_cons (pv_var 4) (pvs_nil)))) (pvs_nil))) (pv_var 5) (nomark _))))) (pzs_one (pz_ret (pv_bl))) (pzs_nil)))))))))))))))))) (pzs_cons (pz_set 11 sc_law.nd (pv_tupleOf z_tuple (pvs_cons (pv_sortedDL (hu64 hr) rfl z_sorted (pvs_cons (pv_cal c__law_fine (hr.mono (by decide)) hgu (pvs_cons (pv_tup (pvs_cons (pv_str) (pvs_nil))) (pvs_cons (pv_int) (pvs_nil)))) (pvs_nil))) (pvs_nil)))) (pzs_one (pz_ret (pv_and (pv_cmp (opEq (hu64 hr)) sim_eq (pv_cal c_merged (hr.mono (by decide)) hgu (pvs_cons (pv_var 11) (pvs_nil))) (pv_tup (pvs_cons (pv_str) (pvs_nil))) (nomark _)) (pv_one (pv_cmp (opEq (hu64 hr)) sim_eq (pv_slice (pv_cal c_without (hr.mono (by decide)) hgu (pvs_cons (pv_var 11) (pvs_cons (pv_tup (pvs_cons (pv_str) (pvs_nil))) (pvs_nil)))) (pvo_some (pv_neg (pv_int))) (pvo_none)) (pv_tup (pvs_cons (pv_str) (pvs_cons (pv_str) (pvs_cons (pv_str) (pvs_nil))))) (nomark _))))))), ex_law h⟩)
end
set_option maxHeartbeats 4000000 in
theorem all_mk {P : Program} {w : World} {K : PySem.W.Frag} {h : Heap} {mg : Str → Option Value} {fa : Addr} (X : K.In h) (G : h.Ns mainGlobals mg) (hfa : mg "law" = some (.ref fa))
    {f0 : Addr} {od0 an0 : Option Addr} {sl0 : Array (Option Value)} {oc0 kV0 dc0 pm0 ct0 : Value} {cd0 : Value}
    {f1 : Addr} {od1 an1 : Option Addr} {sl1 : Array (Option Value)} {oc1 kV1 dc1 pm1 ct1 : Value} {cd1 : Value}
    {f2 : Addr} {od2 an2 : Option Addr} {sl2 : Array (Option Value)} {oc2 kV2 dc2 pm2 ct2 : Value} {cd2 : Value}
    {ti_d2_0 : Tok}
    {dT2 : Addr} {dd2 : Option Addr} {dn2 : Nat} {ds2 : Array (Option Value)}
    {f3 : Addr} {od3 an3 : Option Addr} {sl3 : Array (Option Value)} {oc3 kV3 dc3 pm3 ct3 : Value} {cd3 : Value}
    {f4 : Addr} {od4 an4 : Option Addr} {sl4 : Array (Option Value)} {oc4 kV4 dc4 pm4 ct4 : Value} {cd4 : Value}
    {f5 : Addr} {od5 an5 : Option Addr} {sl5 : Array (Option Value)} {oc5 kV5 dc5 pm5 ct5 : Value} {cd5 : Value}
    {f6 : Addr} {od6 an6 : Option Addr} {sl6 : Array (Option Value)} {oc6 kV6 dc6 pm6 ct6 : Value} {cd6 : Value}
    {f7 : Addr} {od7 an7 : Option Addr} {sl7 : Array (Option Value)} {oc7 kV7 dc7 pm7 ct7 : Value} {cd7 : Value}
    {f8 : Addr} {od8 an8 : Option Addr} {sl8 : Array (Option Value)} {oc8 kV8 dc8 pm8 ct8 : Value} {cd8 : Value}
    {f9 : Addr} {od9 an9 : Option Addr} {sl9 : Array (Option Value)} {oc9 kV9 dc9 pm9 ct9 : Value} {cd9 : Value}
    {f10 : Addr} {od10 an10 : Option Addr} {sl10 : Array (Option Value)} {oc10 kV10 dc10 pm10 ct10 : Value} {cd10 : Value}
    {f11 : Addr} {od11 an11 : Option Addr} {sl11 : Array (Option Value)} {oc11 kV11 dc11 pm11 ct11 : Value} {cd11 : Value}
    {f12 : Addr} {od12 an12 : Option Addr} {sl12 : Array (Option Value)} {oc12 kV12 dc12 pm12 ct12 : Value} {cd12 : Value}
    {f13 : Addr} {od13 an13 : Option Addr} {sl13 : Array (Option Value)} {oc13 kV13 dc13 pm13 ct13 : Value} {cd13 : Value}
    {f14 : Addr} {od14 an14 : Option Addr} {sl14 : Array (Option Value)} {oc14 kV14 dc14 pm14 ct14 : Value} {cd14 : Value}
    {f15 : Addr} {od15 an15 : Option Addr} {sl15 : Array (Option Value)} {oc15 kV15 dc15 pm15 ct15 : Value} {cd15 : Value}
    {f16 : Addr} {od16 an16 : Option Addr} {sl16 : Array (Option Value)} {oc16 kV16 dc16 pm16 ct16 : Value} {cd16 : Value}
    {f17 : Addr} {od17 an17 : Option Addr} {sl17 : Array (Option Value)} {oc17 kV17 dc17 pm17 ct17 : Value} {cd17 : Value}
    {f18 : Addr} {od18 an18 : Option Addr} {sl18 : Array (Option Value)} {oc18 kV18 dc18 pm18 ct18 : Value} {cd18 : Value}
    {f19 : Addr} {od19 an19 : Option Addr} {sl19 : Array (Option Value)} {oc19 kV19 dc19 pm19 ct19 : Value} {cd19 : Value}
    {f20 : Addr} {od20 an20 : Option Addr} {sl20 : Array (Option Value)} {oc20 kV20 dc20 pm20 ct20 : Value} {cd20 : Value}
    {f21 : Addr} {od21 an21 : Option Addr} {sl21 : Array (Option Value)} {oc21 kV21 dc21 pm21 ct21 : Value} {cd21 : Value}
    {ti_FIGURES : Tok}
    {ti_MOST_CODES : Tok}
    {ti_MOST_DEPTH : Tok}
    (a0 : PySem.W.nsIn K mainGlobals "rises" = some (some (.ref f0)))
    (l0 : K.lookup f0 = some ⟨oc0, od0, .func (PySem.W.fnOf "rises" "rises" (defArgs s_rises) (defBody s_rises) (defScope s_rises) .none kV0 dc0 pm0 an0 cd0 ct0), sl0⟩)
    (c0 : PySem.W.codeIn K cd0 "rises" = true)
    (k0 : PySem.W.keepIn K (.ref f0) = true)
    (a1 : PySem.W.nsIn K mainGlobals "is_code" = some (some (.ref f1)))
    (l1 : K.lookup f1 = some ⟨oc1, od1, .func (PySem.W.fnOf "is_code" "is_code" (defArgs s_is_code) (defBody s_is_code) (defScope s_is_code) .none kV1 dc1 pm1 an1 cd1 ct1), sl1⟩)
    (c1 : PySem.W.codeIn K cd1 "is_code" = true)
    (k1 : PySem.W.keepIn K (.ref f1) = true)
    (a2 : PySem.W.nsIn K mainGlobals "are_codes" = some (some (.ref f2)))
    (l2 : K.lookup f2 = some ⟨oc2, od2, .func (PySem.W.fnOf "are_codes" "are_codes" (defArgs s_are_codes) (defBody s_are_codes) (defScope s_are_codes) (.ref dT2) kV2 dc2 pm2 an2 cd2 ct2), sl2⟩)
    (dl2 : K.lookup dT2 = some ⟨.type "tuple", dd2, .seq #[(.int 9 ti_d2_0)] dn2, ds2⟩)
    (c2 : PySem.W.codeIn K cd2 "are_codes" = true)
    (k2 : PySem.W.keepIn K (.ref f2) = true)
    (a3 : PySem.W.nsIn K mainGlobals "need_codes" = some (some (.ref f3)))
    (l3 : K.lookup f3 = some ⟨oc3, od3, .func (PySem.W.fnOf "need_codes" "need_codes" (defArgs s_need_codes) (defBody s_need_codes) (defScope s_need_codes) .none kV3 dc3 pm3 an3 cd3 ct3), sl3⟩)
    (c3 : PySem.W.codeIn K cd3 "need_codes" = true)
    (k3 : PySem.W.keepIn K (.ref f3) = true)
    (a4 : PySem.W.nsIn K mainGlobals "merged_by" = some (some (.ref f4)))
    (l4 : K.lookup f4 = some ⟨oc4, od4, .func (PySem.W.fnOf "merged_by" "merged_by" (defArgs s_merged_by) (defBody s_merged_by) (defScope s_merged_by) .none kV4 dc4 pm4 an4 cd4 ct4), sl4⟩)
    (c4 : PySem.W.codeIn K cd4 "merged_by" = true)
    (k4 : PySem.W.keepIn K (.ref f4) = true)
    (a5 : PySem.W.nsIn K mainGlobals "has" = some (some (.ref f5)))
    (l5 : K.lookup f5 = some ⟨oc5, od5, .func (PySem.W.fnOf "has" "has" (defArgs s_has) (defBody s_has) (defScope s_has) .none kV5 dc5 pm5 an5 cd5 ct5), sl5⟩)
    (c5 : PySem.W.codeIn K cd5 "has" = true)
    (k5 : PySem.W.keepIn K (.ref f5) = true)
    (a6 : PySem.W.nsIn K mainGlobals "common_by" = some (some (.ref f6)))
    (l6 : K.lookup f6 = some ⟨oc6, od6, .func (PySem.W.fnOf "common_by" "common_by" (defArgs s_common_by) (defBody s_common_by) (defScope s_common_by) .none kV6 dc6 pm6 an6 cd6 ct6), sl6⟩)
    (c6 : PySem.W.codeIn K cd6 "common_by" = true)
    (k6 : PySem.W.keepIn K (.ref f6) = true)
    (a7 : PySem.W.nsIn K mainGlobals "less_by" = some (some (.ref f7)))
    (l7 : K.lookup f7 = some ⟨oc7, od7, .func (PySem.W.fnOf "less_by" "less_by" (defArgs s_less_by) (defBody s_less_by) (defScope s_less_by) .none kV7 dc7 pm7 an7 cd7 ct7), sl7⟩)
    (c7 : PySem.W.codeIn K cd7 "less_by" = true)
    (k7 : PySem.W.keepIn K (.ref f7) = true)
    (a8 : PySem.W.nsIn K mainGlobals "without_by" = some (some (.ref f8)))
    (l8 : K.lookup f8 = some ⟨oc8, od8, .func (PySem.W.fnOf "without_by" "without_by" (defArgs s_without_by) (defBody s_without_by) (defScope s_without_by) .none kV8 dc8 pm8 an8 cd8 ct8), sl8⟩)
    (c8 : PySem.W.codeIn K cd8 "without_by" = true)
    (k8 : PySem.W.keepIn K (.ref f8) = true)
    (a9 : PySem.W.nsIn K mainGlobals "merged" = some (some (.ref f9)))
    (l9 : K.lookup f9 = some ⟨oc9, od9, .func (PySem.W.fnOf "merged" "merged" (defArgs s_merged) (defBody s_merged) (defScope s_merged) .none kV9 dc9 pm9 an9 cd9 ct9), sl9⟩)
    (c9 : PySem.W.codeIn K cd9 "merged" = true)
    (k9 : PySem.W.keepIn K (.ref f9) = true)
    (a10 : PySem.W.nsIn K mainGlobals "need_both" = some (some (.ref f10)))
    (l10 : K.lookup f10 = some ⟨oc10, od10, .func (PySem.W.fnOf "need_both" "need_both" (defArgs s_need_both) (defBody s_need_both) (defScope s_need_both) .none kV10 dc10 pm10 an10 cd10 ct10), sl10⟩)
    (c10 : PySem.W.codeIn K cd10 "need_both" = true)
    (k10 : PySem.W.keepIn K (.ref f10) = true)
    (a11 : PySem.W.nsIn K mainGlobals "common" = some (some (.ref f11)))
    (l11 : K.lookup f11 = some ⟨oc11, od11, .func (PySem.W.fnOf "common" "common" (defArgs s_common) (defBody s_common) (defScope s_common) .none kV11 dc11 pm11 an11 cd11 ct11), sl11⟩)
    (c11 : PySem.W.codeIn K cd11 "common" = true)
    (k11 : PySem.W.keepIn K (.ref f11) = true)
    (a12 : PySem.W.nsIn K mainGlobals "without" = some (some (.ref f12)))
    (l12 : K.lookup f12 = some ⟨oc12, od12, .func (PySem.W.fnOf "without" "without" (defArgs s_without) (defBody s_without) (defScope s_without) .none kV12 dc12 pm12 an12 cd12 ct12), sl12⟩)
    (c12 : PySem.W.codeIn K cd12 "without" = true)
    (k12 : PySem.W.keepIn K (.ref f12) = true)
    (a13 : PySem.W.nsIn K mainGlobals "_law_cell_at" = some (some (.ref f13)))
    (l13 : K.lookup f13 = some ⟨oc13, od13, .func (PySem.W.fnOf "_law_cell_at" "_law_cell_at" (defArgs s__law_cell_at) (defBody s__law_cell_at) (defScope s__law_cell_at) .none kV13 dc13 pm13 an13 cd13 ct13), sl13⟩)
    (c13 : PySem.W.codeIn K cd13 "_law_cell_at" = true)
    (k13 : PySem.W.keepIn K (.ref f13) = true)
    (a14 : PySem.W.nsIn K mainGlobals "_law_state" = some (some (.ref f14)))
    (l14 : K.lookup f14 = some ⟨oc14, od14, .func (PySem.W.fnOf "_law_state" "_law_state" (defArgs s__law_state) (defBody s__law_state) (defScope s__law_state) .none kV14 dc14 pm14 an14 cd14 ct14), sl14⟩)
    (c14 : PySem.W.codeIn K cd14 "_law_state" = true)
    (k14 : PySem.W.keepIn K (.ref f14) = true)
    (a15 : PySem.W.nsIn K mainGlobals "_law_choice" = some (some (.ref f15)))
    (l15 : K.lookup f15 = some ⟨oc15, od15, .func (PySem.W.fnOf "_law_choice" "_law_choice" (defArgs s__law_choice) (defBody s__law_choice) (defScope s__law_choice) .none kV15 dc15 pm15 an15 cd15 ct15), sl15⟩)
    (c15 : PySem.W.codeIn K cd15 "_law_choice" = true)
    (k15 : PySem.W.keepIn K (.ref f15) = true)
    (a16 : PySem.W.nsIn K mainGlobals "_law_same" = some (some (.ref f16)))
    (l16 : K.lookup f16 = some ⟨oc16, od16, .func (PySem.W.fnOf "_law_same" "_law_same" (defArgs s__law_same) (defBody s__law_same) (defScope s__law_same) .none kV16 dc16 pm16 an16 cd16 ct16), sl16⟩)
    (c16 : PySem.W.codeIn K cd16 "_law_same" = true)
    (k16 : PySem.W.keepIn K (.ref f16) = true)
    (a17 : PySem.W.nsIn K mainGlobals "_law_code" = some (some (.ref f17)))
    (l17 : K.lookup f17 = some ⟨oc17, od17, .func (PySem.W.fnOf "_law_code" "_law_code" (defArgs s__law_code) (defBody s__law_code) (defScope s__law_code) .none kV17 dc17 pm17 an17 cd17 ct17), sl17⟩)
    (c17 : PySem.W.codeIn K cd17 "_law_code" = true)
    (k17 : PySem.W.keepIn K (.ref f17) = true)
    (a18 : PySem.W.nsIn K mainGlobals "_law_codes" = some (some (.ref f18)))
    (l18 : K.lookup f18 = some ⟨oc18, od18, .func (PySem.W.fnOf "_law_codes" "_law_codes" (defArgs s__law_codes) (defBody s__law_codes) (defScope s__law_codes) .none kV18 dc18 pm18 an18 cd18 ct18), sl18⟩)
    (c18 : PySem.W.codeIn K cd18 "_law_codes" = true)
    (k18 : PySem.W.keepIn K (.ref f18) = true)
    (a19 : PySem.W.nsIn K mainGlobals "_law_fine" = some (some (.ref f19)))
    (l19 : K.lookup f19 = some ⟨oc19, od19, .func (PySem.W.fnOf "_law_fine" "_law_fine" (defArgs s__law_fine) (defBody s__law_fine) (defScope s__law_fine) .none kV19 dc19 pm19 an19 cd19 ct19), sl19⟩)
    (c19 : PySem.W.codeIn K cd19 "_law_fine" = true)
    (k19 : PySem.W.keepIn K (.ref f19) = true)
    (a20 : PySem.W.nsIn K mainGlobals "_law_fewest" = some (some (.ref f20)))
    (l20 : K.lookup f20 = some ⟨oc20, od20, .func (PySem.W.fnOf "_law_fewest" "_law_fewest" (defArgs s__law_fewest) (defBody s__law_fewest) (defScope s__law_fewest) .none kV20 dc20 pm20 an20 cd20 ct20), sl20⟩)
    (c20 : PySem.W.codeIn K cd20 "_law_fewest" = true)
    (k20 : PySem.W.keepIn K (.ref f20) = true)
    (a21 : PySem.W.nsIn K mainGlobals "law" = some (some (.ref f21)))
    (l21 : K.lookup f21 = some ⟨oc21, od21, .func (PySem.W.fnOf "law" "law" (defArgs s_law) (defBody s_law) (defScope s_law) .none kV21 dc21 pm21 an21 cd21 ct21), sl21⟩)
    (c21 : PySem.W.codeIn K cd21 "law" = true)
    (k21 : PySem.W.keepIn K (.ref f21) = true)
    (z_all : PySem.W.nsIn K mainGlobals "all" = some none)
    (z_any : PySem.W.nsIn K mainGlobals "any" = some none)
    (z_dict : PySem.W.nsIn K mainGlobals "dict" = some none)
    (z_isinstance : PySem.W.nsIn K mainGlobals "isinstance" = some none)
    (z_len : PySem.W.nsIn K mainGlobals "len" = some none)
    (z_list : PySem.W.nsIn K mainGlobals "list" = some none)
    (z_max : PySem.W.nsIn K mainGlobals "max" = some none)
    (z_min : PySem.W.nsIn K mainGlobals "min" = some none)
    (z_range : PySem.W.nsIn K mainGlobals "range" = some none)
    (z_repr : PySem.W.nsIn K mainGlobals "repr" = some none)
    (z_sorted : PySem.W.nsIn K mainGlobals "sorted" = some none)
    (z_str : PySem.W.nsIn K mainGlobals "str" = some none)
    (z_tuple : PySem.W.nsIn K mainGlobals "tuple" = some none)
    (z_zip : PySem.W.nsIn K mainGlobals "zip" = some none)
    (g_FIGURES : PySem.W.nsIn K mainGlobals "FIGURES" = some (some (.str "0123" ti_FIGURES)))
    (g_MOST_CODES : PySem.W.nsIn K mainGlobals "MOST_CODES" = some (some (.int 1024 ti_MOST_CODES)))
    (g_MOST_DEPTH : PySem.W.nsIn K mainGlobals "MOST_DEPTH" = some (some (.int 9 ti_MOST_DEPTH))) :
    ∃ fd : FuncData, (∀ (s : Shared) (v : Value), BindsTo s fd ⟨[v], []⟩ [("_law_script", v)]) ∧ ∀ base : Heap, K.In base → base.Ns mainGlobals mg → FnG P w K mg base 16 fa fd ["_law_script"] sp_law := by
  have e := hfa.symm.trans (PySem.W.mg_of X G a21)
  cases e
  refine ⟨?fd, ?bd, fun base _ _ => ?fg⟩
  rotate_left 2
  have F0 := funV_mk (st := s_rises) l0 c0 k0
  have B0 : Binds K _ ["row"] [] := F0.binds (ps := ["row"]) (fun _ _ _ _ _ _ us hl => match us, hl with | [_], _ => rfl)
  have G0 := ok_rises (P := P) (w := w) (mg := mg) (base := base) F0 (PySem.W.mg_none_of X G z_all) (PySem.W.mg_none_of X G z_zip)
  have C_rises : Cal P w K mg base (1) "rises" [] sp_rises := ⟨⟨f0, _, _, [], [], PySem.W.mg_of X G a0, k0, B0, .nil, fun _ _ => rfl, G0⟩⟩
  have F1 := funV_mk (st := s_is_code) l1 c1 k1
  have B1 : Binds K _ ["thing"] [] := F1.binds (ps := ["thing"]) (fun _ _ _ _ _ _ us hl => match us, hl with | [_], _ => rfl)
  have G1 := ok_is_code (P := P) (w := w) (mg := mg) (base := base) F1 (PySem.W.mg_none_of X G z_all) (PySem.W.mg_none_of X G z_isinstance) (PySem.W.mg_none_of X G z_len) (PySem.W.mg_none_of X G z_str) ⟨_, PySem.W.mg_of X G g_FIGURES, KRep.str⟩ ⟨_, PySem.W.mg_of X G g_MOST_DEPTH, KRep.int⟩
  have C_is_code : Cal P w K mg base (1) "is_code" [] sp_is_code := ⟨⟨f1, _, _, [], [], PySem.W.mg_of X G a1, k1, B1, .nil, fun _ _ => rfl, G1⟩⟩
  have F2 := funV_mk (st := s_are_codes) l2 c2 k2
  have B2 : Binds K _ ["thing", "most"] [] := F2.bindsD (its := [(.int 9 ti_d2_0)]) dl2 rfl 2 1 rfl (fun _ _ _ _ _ _ us hl => match us, hl with | [_, _], _ => ⟨_, rfl, rfl⟩)
  have G2 := ok_are_codes (P := P) (w := w) (mg := mg) (base := base) F2 (PySem.W.mg_none_of X G z_all) (PySem.W.mg_none_of X G z_any) (PySem.W.mg_none_of X G z_isinstance) (PySem.W.mg_none_of X G z_len) (PySem.W.mg_none_of X G z_tuple) (PySem.W.mg_none_of X G z_zip) ⟨_, PySem.W.mg_of X G g_MOST_CODES, KRep.int⟩ C_is_code C_rises
  have C_are_codes : Cal P w K mg base (2) "are_codes" [] sp_are_codes := ⟨⟨f2, _, _, [], [], PySem.W.mg_of X G a2, k2, B2, .nil, fun _ _ => rfl, G2⟩⟩
  have C_are_codes_1 : Cal P w K mg base (2) "are_codes" [.int 9] sp_are_codes := calD (PySem.W.mg_of X G a2) k2 (F2.bindsD (ps := ["thing", "most"]) (its := [(.int 9 ti_d2_0)]) dl2 rfl 1 0 rfl (fun _ _ _ _ _ _ us hl => match us, hl with | [_], _ => ⟨_, rfl, rfl⟩)) (KReps.cons KRep.int KReps.nil) G2
  have F3 := funV_mk (st := s_need_codes) l3 c3 k3
  have B3 : Binds K _ ["thing"] [] := F3.binds (ps := ["thing"]) (fun _ _ _ _ _ _ us hl => match us, hl with | [_], _ => rfl)
  have G3 := ok_need_codes (P := P) (w := w) (mg := mg) (base := base) F3 C_are_codes_1
  have C_need_codes : Cal P w K mg base (3) "need_codes" [] sp_need_codes := ⟨⟨f3, _, _, [], [], PySem.W.mg_of X G a3, k3, B3, .nil, fun _ _ => rfl, G3⟩⟩
  have F4 := funV_mk (st := s_merged_by) l4 c4 k4
  have B4 : Binds K _ ["codes"] [] := F4.binds (ps := ["codes"]) (fun _ _ _ _ _ _ us hl => match us, hl with | [_], _ => rfl)
  have G4 := ok_merged_by (P := P) (w := w) (mg := mg) (base := base) F4 (PySem.W.mg_none_of X G z_all) (PySem.W.mg_none_of X G z_len) (PySem.W.mg_none_of X G z_range) (PySem.W.mg_none_of X G z_sorted) (PySem.W.mg_none_of X G z_tuple) ⟨_, PySem.W.mg_of X G g_FIGURES, KRep.str⟩ ⟨_, PySem.W.mg_of X G g_MOST_DEPTH, KRep.int⟩
  have C_merged_by : Cal P w K mg base (1) "merged_by" [] sp_merged_by := ⟨⟨f4, _, _, [], [], PySem.W.mg_of X G a4, k4, B4, .nil, fun _ _ => rfl, G4⟩⟩
  have F5 := funV_mk (st := s_has) l5 c5 k5
  have B5 : Binds K _ ["codes", "code"] [] := F5.binds (ps := ["codes", "code"]) (fun _ _ _ _ _ _ us hl => match us, hl with | [_, _], _ => rfl)
  have G5 := ok_has (P := P) (w := w) (mg := mg) (base := base) F5 (PySem.W.mg_none_of X G z_any) (PySem.W.mg_none_of X G z_len) (PySem.W.mg_none_of X G z_range)
  have C_has : Cal P w K mg base (1) "has" [] sp_has := ⟨⟨f5, _, _, [], [], PySem.W.mg_of X G a5, k5, B5, .nil, fun _ _ => rfl, G5⟩⟩
  have F6 := funV_mk (st := s_common_by) l6 c6 k6
  have B6 : Binds K _ ["codes", "other"] [] := F6.binds (ps := ["codes", "other"]) (fun _ _ _ _ _ _ us hl => match us, hl with | [_, _], _ => rfl)
  have G6 := ok_common_by (P := P) (w := w) (mg := mg) (base := base) F6 C_has C_merged_by
  have C_common_by : Cal P w K mg base (2) "common_by" [] sp_common_by := ⟨⟨f6, _, _, [], [], PySem.W.mg_of X G a6, k6, B6, .nil, fun _ _ => rfl, G6⟩⟩
  have F7 := funV_mk (st := s_less_by) l7 c7 k7
  have B7 : Binds K _ ["code", "other"] [] := F7.binds (ps := ["code", "other"]) (fun _ _ _ _ _ _ us hl => match us, hl with | [_, _], _ => rfl)
  have G7 := ok_less_by (P := P) (w := w) (mg := mg) (base := base) F7 B7 (PySem.W.mg_of X G a7) ⟨_, PySem.W.mg_of X G g_FIGURES, KRep.str⟩ C_has 11
  have C_less_by : Cal P w K mg base (13) "less_by" [] (sp_less_by 11) := ⟨⟨f7, _, _, [], [], PySem.W.mg_of X G a7, k7, B7, .nil, fun _ _ => rfl, G7⟩⟩
  have F8 := funV_mk (st := s_without_by) l8 c8 k8
  have B8 : Binds K _ ["codes", "other"] [] := F8.binds (ps := ["codes", "other"]) (fun _ _ _ _ _ _ us hl => match us, hl with | [_, _], _ => rfl)
  have G8 := ok_without_by (P := P) (w := w) (mg := mg) (base := base) F8 C_less_by C_merged_by
  have C_without_by : Cal P w K mg base (14) "without_by" [] sp_without_by := ⟨⟨f8, _, _, [], [], PySem.W.mg_of X G a8, k8, B8, .nil, fun _ _ => rfl, G8⟩⟩
  have F9 := funV_mk (st := s_merged) l9 c9 k9
  have B9 : Binds K _ ["codes"] [] := F9.binds (ps := ["codes"]) (fun _ _ _ _ _ _ us hl => match us, hl with | [_], _ => rfl)
  have G9 := ok_merged (P := P) (w := w) (mg := mg) (base := base) F9 C_merged_by C_need_codes
  have C_merged : Cal P w K mg base (4) "merged" [] sp_merged := ⟨⟨f9, _, _, [], [], PySem.W.mg_of X G a9, k9, B9, .nil, fun _ _ => rfl, G9⟩⟩
  have F10 := funV_mk (st := s_need_both) l10 c10 k10
  have B10 : Binds K _ ["codes", "other"] [] := F10.binds (ps := ["codes", "other"]) (fun _ _ _ _ _ _ us hl => match us, hl with | [_, _], _ => rfl)
  have G10 := ok_need_both (P := P) (w := w) (mg := mg) (base := base) F10 C_need_codes
  have C_need_both : Cal P w K mg base (4) "need_both" [] sp_need_both := ⟨⟨f10, _, _, [], [], PySem.W.mg_of X G a10, k10, B10, .nil, fun _ _ => rfl, G10⟩⟩
  have F11 := funV_mk (st := s_common) l11 c11 k11
  have B11 : Binds K _ ["codes", "other"] [] := F11.binds (ps := ["codes", "other"]) (fun _ _ _ _ _ _ us hl => match us, hl with | [_, _], _ => rfl)
  have G11 := ok_common (P := P) (w := w) (mg := mg) (base := base) F11 C_common_by C_need_both
  have C_common : Cal P w K mg base (5) "common" [] sp_common := ⟨⟨f11, _, _, [], [], PySem.W.mg_of X G a11, k11, B11, .nil, fun _ _ => rfl, G11⟩⟩
  have F12 := funV_mk (st := s_without) l12 c12 k12
  have B12 : Binds K _ ["codes", "other"] [] := F12.binds (ps := ["codes", "other"]) (fun _ _ _ _ _ _ us hl => match us, hl with | [_, _], _ => rfl)
  have G12 := ok_without (P := P) (w := w) (mg := mg) (base := base) F12 C_need_both C_without_by
  have C_without : Cal P w K mg base (15) "without" [] sp_without := ⟨⟨f12, _, _, [], [], PySem.W.mg_of X G a12, k12, B12, .nil, fun _ _ => rfl, G12⟩⟩
  have F13 := funV_mk (st := s__law_cell_at) l13 c13 k13
  have B13 : Binds K _ ["_law_script", "_law_k"] [] := F13.binds (ps := ["_law_script", "_law_k"]) (fun _ _ _ _ _ _ us hl => match us, hl with | [_, _], _ => rfl)
  have G13 := ok__law_cell_at (P := P) (w := w) (mg := mg) (base := base) F13 (PySem.W.mg_none_of X G z_len)
  have C__law_cell_at : Cal P w K mg base (1) "_law_cell_at" [] sp__law_cell_at := ⟨⟨f13, _, _, [], [], PySem.W.mg_of X G a13, k13, B13, .nil, fun _ _ => rfl, G13⟩⟩
  have F14 := funV_mk (st := s__law_state) l14 c14 k14
  have B14 : Binds K _ ["_law_script", "_law_k"] [] := F14.binds (ps := ["_law_script", "_law_k"]) (fun _ _ _ _ _ _ us hl => match us, hl with | [_, _], _ => rfl)
  have G14 := ok__law_state (P := P) (w := w) (mg := mg) (base := base) F14 (PySem.W.mg_none_of X G z_max) C__law_cell_at
  have C__law_state : Cal P w K mg base (2) "_law_state" [] sp__law_state := ⟨⟨f14, _, _, [], [], PySem.W.mg_of X G a14, k14, B14, .nil, fun _ _ => rfl, G14⟩⟩
  have F15 := funV_mk (st := s__law_choice) l15 c15 k15
  have B15 : Binds K _ ["_law_state_here", "_law_many"] [] := F15.binds (ps := ["_law_state_here", "_law_many"]) (fun _ _ _ _ _ _ us hl => match us, hl with | [_, _], _ => rfl)
  have G15 := ok__law_choice (P := P) (w := w) (mg := mg) (base := base) F15
  have C__law_choice : Cal P w K mg base (1) "_law_choice" [] sp__law_choice := ⟨⟨f15, _, _, [], [], PySem.W.mg_of X G a15, k15, B15, .nil, fun _ _ => rfl, G15⟩⟩
  have F16 := funV_mk (st := s__law_same) l16 c16 k16
  have B16 : Binds K _ ["_law_found", "_law_due"] [] := F16.binds (ps := ["_law_found", "_law_due"]) (fun _ _ _ _ _ _ us hl => match us, hl with | [_, _], _ => rfl)
  have G16 := ok__law_same (P := P) (w := w) (mg := mg) (base := base) F16 (PySem.W.mg_none_of X G z_repr)
  have C__law_same : Cal P w K mg base (1) "_law_same" [] sp__law_same := ⟨⟨f16, _, _, [], [], PySem.W.mg_of X G a16, k16, B16, .nil, fun _ _ => rfl, G16⟩⟩
  have F17 := funV_mk (st := s__law_code) l17 c17 k17
  have B17 : Binds K _ ["_law_state_here", "_law_most"] [] := F17.binds (ps := ["_law_state_here", "_law_most"]) (fun _ _ _ _ _ _ us hl => match us, hl with | [_, _], _ => rfl)
  have G17 := ok__law_code (P := P) (w := w) (mg := mg) (base := base) F17 (PySem.W.mg_none_of X G z_range) C__law_choice
  have C__law_code : Cal P w K mg base (2) "_law_code" [] sp__law_code := ⟨⟨f17, _, _, [], [], PySem.W.mg_of X G a17, k17, B17, .nil, fun _ _ => rfl, G17⟩⟩
  have F18 := funV_mk (st := s__law_codes) l18 c18 k18
  have B18 : Binds K _ ["_law_state_here", "_law_most"] [] := F18.binds (ps := ["_law_state_here", "_law_most"]) (fun _ _ _ _ _ _ us hl => match us, hl with | [_, _], _ => rfl)
  have G18 := ok__law_codes (P := P) (w := w) (mg := mg) (base := base) F18 (PySem.W.mg_none_of X G z_range) (PySem.W.mg_none_of X G z_sorted) (PySem.W.mg_none_of X G z_tuple) C__law_choice C__law_code
  have C__law_codes : Cal P w K mg base (3) "_law_codes" [] sp__law_codes := ⟨⟨f18, _, _, [], [], PySem.W.mg_of X G a18, k18, B18, .nil, fun _ _ => rfl, G18⟩⟩
  have F19 := funV_mk (st := s__law_fine) l19 c19 k19
  have B19 : Binds K _ ["_law_codes_here", "_law_depth"] [] := F19.binds (ps := ["_law_codes_here", "_law_depth"]) (fun _ _ _ _ _ _ us hl => match us, hl with | [_, _], _ => rfl)
  have G19 := ok__law_fine (P := P) (w := w) (mg := mg) (base := base) F19 (PySem.W.mg_none_of X G z_len) (PySem.W.mg_none_of X G z_list)
  have C__law_fine : Cal P w K mg base (1) "_law_fine" [] sp__law_fine := ⟨⟨f19, _, _, [], [], PySem.W.mg_of X G a19, k19, B19, .nil, fun _ _ => rfl, G19⟩⟩
  have F20 := funV_mk (st := s__law_fewest) l20 c20 k20
  have B20 : Binds K _ ["_law_fine_here", "_law_depth"] [] := F20.binds (ps := ["_law_fine_here", "_law_depth"]) (fun _ _ _ _ _ _ us hl => match us, hl with | [_, _], _ => rfl)
  have G20 := ok__law_fewest (P := P) (w := w) (mg := mg) (base := base) F20 (PySem.W.mg_none_of X G z_len) (PySem.W.mg_none_of X G z_sorted) (PySem.W.mg_none_of X G z_tuple)
  have C__law_fewest : Cal P w K mg base (1) "_law_fewest" [] sp__law_fewest := ⟨⟨f20, _, _, [], [], PySem.W.mg_of X G a20, k20, B20, .nil, fun _ _ => rfl, G20⟩⟩
  have F21 := funV_mk (st := s_law) l21 c21 k21
  have G21 := ok_law (P := P) (w := w) (mg := mg) (base := base) F21 (PySem.W.mg_none_of X G z_dict) (PySem.W.mg_none_of X G z_len) (PySem.W.mg_none_of X G z_max) (PySem.W.mg_none_of X G z_min) (PySem.W.mg_none_of X G z_range) (PySem.W.mg_none_of X G z_repr) (PySem.W.mg_none_of X G z_sorted) (PySem.W.mg_none_of X G z_tuple) C__law_choice C__law_codes C__law_fewest C__law_fine C__law_same C__law_state C_common C_merged C_without
  exact G21
  exact fun s v => .of_eq rfl
end PL
open PySem PySem.W PyProof.Rows
set_option maxHeartbeats 0 in
theorem PySem.Challenge.cw_onewhere_k20_codes_merged_and_held_holds : PySem.Challenge.rw_onewhere_k20_codes_merged_and_held.Holds := by
  w_on; o_law; k_head; (case hw => w_witness2)
  k_fill
  refine PL.walkG (l := PySem.Challenge.rw_onewhere_k20_codes_merged_and_held) (n := 63) (k := 16) (x := "_law_script") (psp := fun _ => PL.sp_law) rfl (by decide) rfl ⟨rfl, by decide, by decide⟩ (fun w h Y => PySem.W.kIn_of Y) ?F (fun _ ns Q hl hq => PL.sp_law_at hl hq)
  case F =>
    intro w mg fa h KX G hmg
    refine' PL.all_mk KX G hmg ?a0 ?l0 ?c0 ?k0 ?a1 ?l1 ?c1 ?k1 ?a2 ?l2 ?dl2 ?c2 ?k2 ?a3 ?l3 ?c3 ?k3 ?a4 ?l4 ?c4 ?k4 ?a5 ?l5 ?c5 ?k5 ?a6 ?l6 ?c6 ?k6 ?a7 ?l7 ?c7 ?k7 ?a8 ?l8 ?c8 ?k8 ?a9 ?l9 ?c9 ?k9 ?a10 ?l10 ?c10 ?k10 ?a11 ?l11 ?c11 ?k11 ?a12 ?l12 ?c12 ?k12 ?a13 ?l13 ?c13 ?k13 ?a14 ?l14 ?c14 ?k14 ?a15 ?l15 ?c15 ?k15 ?a16 ?l16 ?c16 ?k16 ?a17 ?l17 ?c17 ?k17 ?a18 ?l18 ?c18 ?k18 ?a19 ?l19 ?c19 ?k19 ?a20 ?l20 ?c20 ?k20 ?a21 ?l21 ?c21 ?k21 ?z_all ?z_any ?z_dict ?z_isinstance ?z_len ?z_list ?z_max ?z_min ?z_range ?z_repr ?z_sorted ?z_str ?z_tuple ?z_zip ?g_FIGURES ?g_MOST_CODES ?g_MOST_DEPTH
    case a0 => k_is
    case l0 => k_is
    case c0 => k_is
    case k0 => k_is
    case a1 => k_is
    case l1 => k_is
    case c1 => k_is
    case k1 => k_is
    case a2 => k_is
    case l2 => k_is
    case dl2 => k_is
    case c2 => k_is
    case k2 => k_is
    case a3 => k_is
    case l3 => k_is
    case c3 => k_is
    case k3 => k_is
    case a4 => k_is
    case l4 => k_is
    case c4 => k_is
    case k4 => k_is
    case a5 => k_is
    case l5 => k_is
    case c5 => k_is
    case k5 => k_is
    case a6 => k_is
    case l6 => k_is
    case c6 => k_is
    case k6 => k_is
    case a7 => k_is
    case l7 => k_is
    case c7 => k_is
    case k7 => k_is
    case a8 => k_is
    case l8 => k_is
    case c8 => k_is
    case k8 => k_is
    case a9 => k_is
    case l9 => k_is
    case c9 => k_is
    case k9 => k_is
    case a10 => k_is
    case l10 => k_is
    case c10 => k_is
    case k10 => k_is
    case a11 => k_is
    case l11 => k_is
    case c11 => k_is
    case k11 => k_is
    case a12 => k_is
    case l12 => k_is
    case c12 => k_is
    case k12 => k_is
    case a13 => k_is
    case l13 => k_is
    case c13 => k_is
    case k13 => k_is
    case a14 => k_is
    case l14 => k_is
    case c14 => k_is
    case k14 => k_is
    case a15 => k_is
    case l15 => k_is
    case c15 => k_is
    case k15 => k_is
    case a16 => k_is
    case l16 => k_is
    case c16 => k_is
    case k16 => k_is
    case a17 => k_is
    case l17 => k_is
    case c17 => k_is
    case k17 => k_is
    case a18 => k_is
    case l18 => k_is
    case c18 => k_is
    case k18 => k_is
    case a19 => k_is
    case l19 => k_is
    case c19 => k_is
    case k19 => k_is
    case a20 => k_is
    case l20 => k_is
    case c20 => k_is
    case k20 => k_is
    case a21 => k_is
    case l21 => k_is
    case c21 => k_is
    case k21 => k_is
    case z_all => k_is
    case z_any => k_is
    case z_dict => k_is
    case z_isinstance => k_is
    case z_len => k_is
    case z_list => k_is
    case z_max => k_is
    case z_min => k_is
    case z_range => k_is
    case z_repr => k_is
    case z_sorted => k_is
    case z_str => k_is
    case z_tuple => k_is
    case z_zip => k_is
    case g_FIGURES => k_is
    case g_MOST_CODES => k_is
    case g_MOST_DEPTH => k_is
