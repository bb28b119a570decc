import PyProof.Rows.All
import Wide.All
import OpenK.AllK
import Wide.FinOn
import HandS.ForMost
import HandS.ForExc
import HandS.Wide
import HandS.IsInst
import HandS.Flow
import HandS.Sort
import HandS.Conv
import HandS.Lambda
import HandS.WideBits
import HandS.TupMul
import KE.SortData
import KE.DataCmp
import HandS.TupAny
import HandS.Deep
import HandS.RaiseMore
import PyProof.ReprRoads
import HandS.Zip
import HandS.Style
import HandS.Iter
import HandS.NoneIn
import HandS.ExcOwn
import HandS.WordsExc
import HandS.Defaults
import HandS.Text
import HandS.Replace
import HandS.StrMore
import PyProof.NoPylong
import PyProof.StrLawsRepr
import HandS.TupSets
import HandS.SetBool
import KE.KeyNested
import HandS.Dict
import HandS.DictComp
import HandS.More
import HandS.Comp
import PyProof.DictUpdate
import KE.KDictKeyed
import KE.KDictWalk
import PyProof.Rows.TupTab
import HandS.TupLen
import HandS.DictTup
import HandS.List
import KE.KDictCopyH
import PySem.Challenge.RW_onewhere_k45_what_changed_hands
set_option Elab.async false
set_option linter.all false
set_option maxRecDepth 100000
section
open PySem PySem.W PyProof.Rows
set_option maxHeartbeats 0 in
open_top PySem.Challenge.ws_onewhere_k45_what_changed_hands for PySem.Challenge.rw_onewhere_k45_what_changed_hands
end
namespace PL
open PySem PySem.Spec PyProof.Rows L2

inductive Pv where
  | non | bl (b : Bool) | int (i : Int) | str (x : Str) | tup (xs : List Pv) | lst (xs : List Pv) | dct (ks vs : List Pv) | ref (a : Addr) | ty (n : String)
  /-- a list that is locked: the script, a list of the written part -/
  | scr (xs : List Pv)
  /-- a tuple that code made, known to have no dict of its own -/
  | tpx (xs : List Pv)

inductive Mo where
  | lst (xs : List Pv) | dct (ks vs : List Pv)
  /-- a table of code objects of the name q -/
  | tab (q : Str)
  /-- an exception that was caught, of the class at C -/
  | exc (C : Addr)
  /-- a dict that a loop walks: its object, its pairs -/
  | lck (o : Obj) (kvs : List (Key × V))
  /-- an object of another kind: F tells it by the values of its two rows -/
  | ob (F : List V → List V → HO) (ks xs : List Pv)

abbrev Sto := Addr → Option Mo
def cnd (b : Bool) (p q : Prop) : Prop := match b with
  | true => p
  | false => q
theorem cnd_i {b : Bool} {p q : Prop} (h : b = true → p) (h' : b = false → q) : cnd b p q := by
  cases b with
  | true => exact h rfl
  | false => exact h' rfl
def put (S : Sto) (a : Addr) (m : Mo) : Sto := fun b => if b = a then some m else S b
def del (S : Sto) (a : Addr) : Sto := fun b => if b = a then none else S b
@[simp] theorem put_same {S : Sto} {a : Addr} {m : Mo} : put S a m a = some m := by simp [put]
@[simp] theorem del_same {S : Sto} {a : Addr} : del S a a = none := by simp [del]
theorem put_ne {S : Sto} {a b : Addr} {m : Mo} (h : b ≠ a) : put S a m b = S b := by simp [put, h]
theorem del_ne {S : Sto} {a b : Addr} (h : b ≠ a) : del S a b = S b := by simp [del, h]
@[simp] theorem put_put {S : Sto} {a : Addr} {m n : Mo} : put (put S a m) a n = put S a n := by
  funext b; simp only [put]; split <;> rfl
theorem del_put {S : Sto} {a : Addr} {m : Mo} (h : S a = none) : del (put S a m) a = S := by
  funext b; simp only [put, del]; split
  · rename_i e; rw [e, h]
  · rfl

section
variable (K : PySem.W.Frag)
def obO (u : HO) : Prop := ((∃ φ, u = .ext φ) ∧ ∀ b q, u ≠ LamX.CodeO b q) ∨ (∃ o φ, u = .frz o (.ext φ)) ∨ (∃ C dx fs, u = .ins C dx fs)
mutual
def RepV (H : Hp) (S : Sto) : Pv → V → Prop
  | .non, v => v = .non
  | .bl b, v => v = .bl b
  | .int i, v => v = .int i
  | .str x, v => v = .str x
  | .tup ps, v => ∃ a vs, v = .ref a ∧ SqT K H a vs ∧ RepVs H S ps vs
  | .lst ps, v => ∃ a vs, v = .ref a ∧ H a = some (.lst vs) ∧ S a = none ∧ RepVs H S ps vs
  | .dct ks ps, v => ∃ a kvs, v = .ref a ∧ Rd H a (.dK kvs) ∧ S a = none ∧ RepVs H S ks (kvs.map fun kv => kV kv.1) ∧ RepVs H S ps (kvs.map (·.2))
  | .ref a, v => v = .ref a
  | .ty n, v => v = .ty n
  | .scr ps, v => ∃ a vs, v = .ref a ∧ ((∃ o, H a = some (.frz o (.lst vs))) ∨ SqL K (fun _ => none) a vs) ∧ RepVs H S ps vs
  | .tpx ps, v => ∃ a vs o, v = .ref a ∧ H a = some (.frz o (.tup vs)) ∧ o.dict = none ∧ RepVs H S ps vs
def RepVs (H : Hp) (S : Sto) : List Pv → List V → Prop
  | [], vs => vs = []
  | p :: ps, vs => ∃ v r, vs = v :: r ∧ RepV H S p v ∧ RepVs H S ps r
end
def RepM (H : Hp) (S : Sto) (a : Addr) : Mo → Prop
  | .lst xs => ∃ vs, H a = some (.lst vs) ∧ RepVs K H S xs vs
  | .dct ks ps => ∃ kvs, H a = some (.dK kvs) ∧ RepVs K H S ks (kvs.map fun kv => kV kv.1) ∧ RepVs K H S ps (kvs.map (·.2))
  | .tab q => LamX.TabS H a q
  | .exc C => ∃ oe, H a = some (.frz oe (.own a)) ∧ Zc (.ref C) none oe ∧ ∃ vs, oe.data = .fields vs
  | .lck o kvs => H a = some (.frz o (.dK kvs))
  | .ob F ks xs => ∃ vs us, H a = some (F vs us) ∧ obO (F vs us) ∧ RepVs K H S ks vs ∧ RepVs K H S xs us
def RepS (H : Hp) (S : Sto) : Prop := ∀ a m, S a = some m → RepM K H S a m
end

structure Ext (S : Sto) (H : Hp) (S' : Sto) (H' : Hp) : Prop where
  keep : ∀ a o, H a = some o → S a = none → H' a = some o
  new : ∀ a, S' a ≠ none → S a ≠ none ∨ H a = none
theorem Ext.refl (S : Sto) (H : Hp) : Ext S H S H := ⟨fun _ _ h _ => h, fun _ h => .inl h⟩
theorem Ext.non {S S' : Sto} {H H' : Hp} (e : Ext S H S' H') {a : Addr} {o : HO} (h : H a = some o) (hs : S a = none) : S' a = none := by
  cases q : S' a with
  | none => rfl
  | some m =>
    rcases e.new a (by rw [q]; simp) with z | z
    · exact absurd hs z
    · rw [h] at z; cases z
theorem Ext.trans {S S1 S2 : Sto} {H H1 H2 : Hp} (a : Ext S H S1 H1) (b : Ext S1 H1 S2 H2) : Ext S H S2 H2 where
  keep := fun x o h hs => b.keep x o (a.keep x o h hs) (a.non h hs)
  new := fun x h => by
    rcases b.new x h with z | z
    · exact a.new x z
    · cases q : H x with
      | none => exact .inr rfl
      | some o =>
        left
        intro hs
        rw [a.keep x o q hs] at z
        cases z

section
variable {K : PySem.W.Frag} {H H' : Hp} {S S' : Sto}
def stoU : HO → Bool
  | .lst _ => true | .dK _ => true | .tbl _ => true | .frz _ (.own _) => true | .frz _ (.dK _) => true | _ => false
theorem RepS.mut (rs : RepS K H S) {a : Addr} {m : Mo} (h : S a = some m) : ∃ u, H a = some u ∧ (stoU u = true ∨ obO u) := by
  have q := rs a m h
  cases m with
  | lst xs => obtain ⟨vs, e, _⟩ := q; exact ⟨_, e, .inl rfl⟩
  | dct ks ps => obtain ⟨kvs, e, _⟩ := q; exact ⟨_, e, .inl rfl⟩
  | tab n => obtain ⟨ps, e, _⟩ := q; exact ⟨_, e, .inl rfl⟩
  | exc C => obtain ⟨oe, e, _⟩ := q; exact ⟨_, e, .inl rfl⟩
  | lck o kvs => exact ⟨_, q, .inl rfl⟩
  | ob F ks xs => obtain ⟨vs, us, e, o, _⟩ := q; exact ⟨_, e, .inr o⟩
theorem no_code {b : Addr} {q : Str} : ¬ obO (LamX.CodeO b q) := by
  rintro (⟨_, n⟩ | ⟨_, _, e⟩ | ⟨_, _, _, e⟩)
  · exact n _ _ rfl
  · cases e
  · cases e
theorem RepS.noS (rs : RepS K H S) {a : Addr} {u : HO} (h : H a = some u) (hu : stoU u = false) (hx : ¬ obO u := by first | exact no_code | (rintro (⟨⟨_, e⟩, _⟩ | ⟨_, _, e⟩ | ⟨_, _, _, e⟩) <;> cases e)) : S a = none := by
  cases q : S a with
  | none => rfl
  | some m =>
    obtain ⟨v, e, z⟩ := rs.mut q
    rw [h] at e
    cases e
    rcases z with z | z
    · rw [hu] at z
      cases z
    · exact (hx z).elim
theorem RepS.tup (rs : RepS K H S) {a : Addr} {vs : List V} (h : Rd H a (.tup vs)) : S a = none := by
  rcases h with h | ⟨o, h⟩
  · exact rs.noS h rfl
  · exact rs.noS h rfl
theorem RepS.frz (rs : RepS K H S) {a : Addr} {o : Obj} {u : HO} (h : H a = some (.frz o u)) (hu : stoU (.frz o u) = false := by rfl) (hx : ¬ obO (.frz o u) := by rintro (⟨⟨_, e⟩, _⟩ | ⟨_, _, e⟩ | ⟨_, _, _, e⟩) <;> cases e) : S a = none := rs.noS h hu hx
theorem RepS.fr (rs : RepS K H S) {a : Addr} (h : H a = none) : S a = none := by
  cases q : S a with
  | none => rfl
  | some m =>
    obtain ⟨v, e, _⟩ := rs.mut q
    rw [h] at e
    cases e
theorem tab_ext (rs : RepS K H S) (e : Ext S H S' H') {a : Addr} {q : Str} (t : LamX.TabS H a q) (h : H' a = H a) : LamX.TabS H' a q := by
  obtain ⟨ps, h1, h2, h3⟩ := t
  refine ⟨ps, h.trans h1, h2, fun pos cv hc => ?_⟩
  obtain ⟨c, e1, e2⟩ := h3 pos cv hc
  exact ⟨c, e1, e.keep c _ e2 (rs.noS e2 rfl)⟩
theorem Rd.ext (e : Ext S H S' H') {a : Addr} {u : HO} (h : Rd H a u) (hs : S a = none) : Rd H' a u ∧ S' a = none := by
  rcases h with h | ⟨o, h⟩
  · exact ⟨.inl (e.keep _ _ h hs), e.non h hs⟩
  · exact ⟨.inr ⟨o, e.keep _ _ h hs⟩, e.non h hs⟩
theorem SqT.ext (rs : RepS K H S) (e : Ext S H S' H') {a : Addr} {vs : List V} (h : SqT K H a vs) : SqT K H' a vs := by
  rcases h with h | h
  · exact .inl (Rd.ext e h (rs.tup h)).1
  · exact .inr h
mutual
theorem RepV.ext (rs : RepS K H S) (e : Ext S H S' H') : ∀ (p : Pv) (v : V), RepV K H S p v → RepV K H' S' p v
  | .non, _, h => h
  | .bl _, _, h => h
  | .int _, _, h => h
  | .str _, _, h => h
  | .tup ps, _, ⟨a, vs, e1, h, r⟩ => ⟨a, vs, e1, SqT.ext rs e h, RepVs.ext rs e ps vs r⟩
  | .lst ps, _, ⟨a, vs, e1, h, hs, r⟩ => ⟨a, vs, e1, e.keep _ _ h hs, e.non h hs, RepVs.ext rs e ps vs r⟩
  | .dct ks ps, _, ⟨a, kvs, e1, h, hs, r1, r2⟩ => ⟨a, kvs, e1, (Rd.ext e h hs).1, (Rd.ext e h hs).2, RepVs.ext rs e ks _ r1, RepVs.ext rs e ps _ r2⟩
  | .ref _, _, h => h
  | .ty _, _, h => h
  | .scr ps, _, ⟨a, vs, e1, h, r⟩ => ⟨a, vs, e1, h.elim (fun ⟨o, z⟩ => .inl ⟨o, e.keep _ _ z (rs.frz z)⟩) .inr, RepVs.ext rs e ps vs r⟩
  | .tpx ps, _, ⟨a, vs, o, e1, h, d, r⟩ => ⟨a, vs, o, e1, e.keep _ _ h (rs.frz h), d, RepVs.ext rs e ps vs r⟩
theorem RepVs.ext (rs : RepS K H S) (e : Ext S H S' H') : ∀ (ps : List Pv) (vs : List V), RepVs K H S ps vs → RepVs K H' S' ps vs
  | [], _, h => h
  | p :: ps, _, ⟨v, r, e1, h1, h2⟩ => ⟨v, r, e1, RepV.ext rs e p v h1, RepVs.ext rs e ps r h2⟩
end
theorem RepVs.len : ∀ {ps : List Pv} {vs : List V}, RepVs K H S ps vs → vs.length = ps.length
  | [], _, h => by have e : _ = [] := h; rw [e]; rfl
  | p :: ps, _, ⟨v, r, e1, h1, h2⟩ => by rw [e1, List.length_cons, List.length_cons, RepVs.len h2]
theorem RepVs.app : ∀ {ps qs : List Pv} {vs us : List V}, RepVs K H S ps vs → RepVs K H S qs us → RepVs K H S (ps ++ qs) (vs ++ us)
  | [], _, _, _, h, k => by have e : _ = [] := h; rw [e]; exact k
  | p :: ps, _, _, _, ⟨v, r, e1, h1, h2⟩, k => ⟨v, r ++ _, by rw [e1]; rfl, h1, RepVs.app h2 k⟩
theorem RepVs.get : ∀ {ps : List Pv} {vs : List V} {i : Nat} {p : Pv}, RepVs K H S ps vs → ps[i]? = some p → ∃ v, vs[i]? = some v ∧ RepV K H S p v
  | [], _, _, _, _, e => by simp at e
  | p :: ps, _, 0, q, ⟨v, r, e1, h1, h2⟩, e => by
    have e' : p = q := by simpa using e
    subst e'
    exact ⟨v, by rw [e1]; rfl, h1⟩
  | p :: ps, _, i + 1, q, ⟨v, r, e1, h1, h2⟩, e => by
    obtain ⟨u, a, b⟩ := RepVs.get (i := i) h2 (by simpa using e)
    exact ⟨u, by rw [e1]; simpa using a, b⟩
theorem RepVs.take : ∀ {ps : List Pv} {vs : List V} (n : Nat), RepVs K H S ps vs → RepVs K H S (ps.take n) (vs.take n)
  | [], _, n, h => by have e : _ = [] := h; rw [e]; simp [RepVs]
  | p :: ps, _, 0, _ => rfl
  | p :: ps, _, n + 1, ⟨v, r, e1, h1, h2⟩ => ⟨v, r.take n, by rw [e1]; rfl, h1, RepVs.take n h2⟩
theorem RepVs.drop : ∀ {ps : List Pv} {vs : List V} (n : Nat), RepVs K H S ps vs → RepVs K H S (ps.drop n) (vs.drop n)
  | [], _, n, h => by have e : _ = [] := h; rw [e]; simp [RepVs]
  | p :: ps, _, 0, h => h
  | p :: ps, _, n + 1, ⟨v, r, e1, h1, h2⟩ => by rw [e1]; exact RepVs.drop n h2
theorem RepVs.set : ∀ {ps : List Pv} {vs : List V} {p : Pv} {v : V} (i : Nat), RepVs K H S ps vs → RepV K H S p v → RepVs K H S (ps.set i p) (vs.set i v)
  | [], _, _, _, _, h, _ => by have e : _ = [] := h; rw [e]; rfl
  | p :: ps, _, q, u, 0, ⟨v, r, e1, h1, h2⟩, k => ⟨u, r, by rw [e1]; rfl, k, h2⟩
  | p :: ps, _, q, u, i + 1, ⟨v, r, e1, h1, h2⟩, k => ⟨v, r.set i u, by rw [e1]; rfl, h1, RepVs.set i h2 k⟩
theorem RepVs.one {p : Pv} {vs : List V} (h : RepVs K H S [p] vs) : ∃ v, vs = [v] ∧ RepV K H S p v := by
  obtain ⟨v, r, e, h1, h2⟩ := h
  have e2 : r = [] := h2
  exact ⟨v, by rw [e, e2], h1⟩
theorem RepVs.two {p q : Pv} {vs : List V} (h : RepVs K H S [p, q] vs) : ∃ v u, vs = [v, u] ∧ RepV K H S p v ∧ RepV K H S q u := by
  obtain ⟨v, r, e, h1, h2⟩ := h
  obtain ⟨u, rfl, h3⟩ := RepVs.one h2
  exact ⟨v, u, e, h1, h3⟩
end

abbrev Env' := List (Option Pv)
def RepE (K : PySem.W.Frag) (H : Hp) (S : Sto) (σ : L2.St) (ρ : Env') : Prop := σ.length = ρ.length ∧ ∀ (i : Nat) (p : Pv), ρ[i]? = some (some p) → ∃ v, σ[i]? = some (some v) ∧ RepV K H S p v
section
variable {K : PySem.W.Frag} {H H' : Hp} {S S' : Sto} {σ : L2.St} {ρ : Env'}
theorem RepE.ext (rs : RepS K H S) (e : Ext S H S' H') (r : RepE K H S σ ρ) : RepE K H' S' σ ρ := ⟨r.1, fun i p h => by
  obtain ⟨v, a, b⟩ := r.2 i p h
  exact ⟨v, a, RepV.ext rs e p v b⟩⟩
theorem RepE.set (r : RepE K H S σ ρ) {p : Pv} {v : V} (i : Nat) (h : RepV K H S p v) : RepE K H S (σ.set i (some v)) (ρ.set i (some p)) := by
  refine ⟨by simpa using r.1, fun j q e => ?_⟩
  by_cases hj : i = j
  · subst hj
    rw [List.getElem?_set] at e
    simp only [if_true] at e
    split at e
    · rename_i hl
      cases e
      refine ⟨v, ?_, h⟩
      rw [List.getElem?_set_self (by rw [r.1]; exact hl)]
    · cases e
  · rw [List.getElem?_set_ne hj] at e
    obtain ⟨u, a, b⟩ := r.2 j q e
    exact ⟨u, by rw [List.getElem?_set_ne hj]; exact a, b⟩
end

abbrev QV := Pv → Sto → Prop
abbrev PF := Env' → Sto → QV → Prop
abbrev PFs := Env' → Sto → (List Pv → Sto → Prop) → Prop
abbrev PFB := Env' → Sto → (Bool → Sto → Prop) → Prop
structure Ends' where
  nx : Env' → Sto → Prop
  rt : Pv → Sto → Prop
  bk : Env' → Sto → Prop := fun _ _ => False
  ct : Env' → Sto → Prop := fun _ _ => False
abbrev PFS := Ends' → Env' → Sto → Prop
def Ends'.le (D D' : Ends') : Prop := (∀ r s, D.nx r s → D'.nx r s) ∧ (∀ p s, D.rt p s → D'.rt p s) ∧ (∀ r s, D.bk r s → D'.bk r s) ∧ ∀ r s, D.ct r s → D'.ct r s
theorem Ends'.le.refl (D : Ends') : D.le D := ⟨fun _ _ h => h, fun _ _ h => h, fun _ _ h => h, fun _ _ h => h⟩

def lift (K : PySem.W.Frag) (S0 : Sto) (H0 : Hp) (f : PF) : TE := fun σ H Q => ∃ ρ S, RepE K H S σ ρ ∧ RepS K H S ∧ Ext S0 H0 S H ∧
  f ρ S fun p S' => ∀ v H', RepV K H' S' p v → RepS K H' S' → Ext S H S' H' → Q v H'
def liftA (K : PySem.W.Frag) (S0 : Sto) (H0 : Hp) (f : PFs) : TA := fun σ H Q => ∃ ρ S, RepE K H S σ ρ ∧ RepS K H S ∧ Ext S0 H0 S H ∧
  f ρ S fun ps S' => ∀ vs H', RepVs K H' S' ps vs → RepS K H' S' → Ext S H S' H' → Q vs H'
def liftB (K : PySem.W.Frag) (S0 : Sto) (H0 : Hp) (f : PFB) : TT := fun σ H Q => ∃ ρ S, RepE K H S σ ρ ∧ RepS K H S ∧ Ext S0 H0 S H ∧
  f ρ S fun b S' => ∀ H', RepS K H' S' → Ext S H S' H' → Q b H'
def lE (K : PySem.W.Frag) (S : Sto) (H : Hp) (D : Ends) : Ends' :=
  { nx := fun ρ' S' => ∀ σ' H', RepE K H' S' σ' ρ' → RepS K H' S' → Ext S H S' H' → D.nx σ' H'
    rt := fun p S' => ∀ v H', RepV K H' S' p v → RepS K H' S' → Ext S H S' H' → D.rt v H'
    bk := fun ρ' S' => ∀ σ' H', RepE K H' S' σ' ρ' → RepS K H' S' → Ext S H S' H' → D.bk σ' H'
    ct := fun ρ' S' => ∀ σ' H', RepE K H' S' σ' ρ' → RepS K H' S' → Ext S H S' H' → D.ct σ' H' }
theorem lE_le {K : PySem.W.Frag} {S S1 : Sto} {H H1 : Hp} {D : Ends} (e : Ext S H S1 H1) : (lE K S H D).le (lE K S1 H1 D) :=
  ⟨fun _ _ q σ' H' a1 a2 a3 => q σ' H' a1 a2 (e.trans a3), fun _ _ q v H' a1 a2 a3 => q v H' a1 a2 (e.trans a3), fun _ _ q σ' H' a1 a2 a3 => q σ' H' a1 a2 (e.trans a3), fun _ _ q σ' H' a1 a2 a3 => q σ' H' a1 a2 (e.trans a3)⟩
def liftS (K : PySem.W.Frag) (S0 : Sto) (H0 : Hp) (g : PFS) : TS := fun D σ H => ∃ ρ S, RepE K H S σ ρ ∧ RepS K H S ∧ Ext S0 H0 S H ∧ g (lE K S H D) ρ S

structure PV (X : Cx) (S0 : Sto) (H0 : Hp) (e : Expr) (f : PF) : Prop where
  mono : ∀ ρ S Q Q', (∀ p S', Q p S' → Q' p S') → f ρ S Q → f ρ S Q'
  pe : PE X e (lift X.K S0 H0 f)
structure PVs (X : Cx) (S0 : Sto) (H0 : Hp) (es : List Expr) (f : PFs) : Prop where
  mono : ∀ ρ S Q Q', (∀ p S', Q p S' → Q' p S') → f ρ S Q → f ρ S Q'
  pa : PA X es (liftA X.K S0 H0 f)
structure PB (X : Cx) (S0 : Sto) (H0 : Hp) (e : Expr) (f : PFB) : Prop where
  mono : ∀ ρ S Q Q', (∀ p S', Q p S' → Q' p S') → f ρ S Q → f ρ S Q'
  pt : PT X e (liftB X.K S0 H0 f)
structure PBw (X : Cx) (S0 : Sto) (H0 : Hp) (e : Expr) (f : PFB) : Prop where
  mono : ∀ ρ S Q Q', (∀ p S', Q p S' → Q' p S') → f ρ S Q → f ρ S Q'
  pw : PW X e (liftB X.K S0 H0 f)
structure PZ (X : Cx) (S0 : Sto) (H0 : Hp) (st : Stmt) (g : PFS) : Prop where
  mono : ∀ D D' ρ S, D.le D' → g D ρ S → g D' ρ S
  ps : PS X st (liftS X.K S0 H0 g)
structure PZs (X : Cx) (S0 : Sto) (H0 : Hp) (st : List Stmt) (g : PFS) : Prop where
  mono : ∀ D D' ρ S, D.le D' → g D ρ S → g D' ρ S
  pss : PSs X st (liftS X.K S0 H0 g)

theorem PE.imp {X : Cx} {e : Expr} {t t' : TE} (h : PE X e t) (i : ∀ σ H Q, t' σ H Q → t σ H Q) : PE X e t' := ⟨fun pins s σ H Q I q => h.run pins s σ H Q I (i σ H Q q)⟩
theorem PT.imp {X : Cx} {e : Expr} {t t' : TT} (h : PT X e t) (i : ∀ σ H Q, t' σ H Q → t σ H Q) : PT X e t' := ⟨fun pins s σ H Q I q => h.run pins s σ H Q I (i σ H Q q)⟩
theorem PW.imp {X : Cx} {e : Expr} {t t' : TT} (h : PW X e t) (i : ∀ σ H Q, t' σ H Q → t σ H Q) : PW X e t' := ⟨fun wh pins s σ H Q I q => h.run wh pins s σ H Q I (i σ H Q q)⟩
theorem PA.imp {X : Cx} {e : List Expr} {t t' : TA} (h : PA X e t) (i : ∀ σ H Q, t' σ H Q → t σ H Q) : PA X e t' := ⟨fun pos pins s σ H Q I q => h.run pos pins s σ H Q I (i σ H Q q)⟩
theorem PS.imp {X : Cx} {e : Stmt} {t t' : TS} (h : PS X e t) (i : ∀ D σ H, t' D σ H → t D σ H) : PS X e t' := ⟨fun pins s σ H D I q => h.run pins s σ H D I (i D σ H q)⟩
theorem PSs.imp {X : Cx} {e : List Stmt} {t t' : TS} (h : PSs X e t) (i : ∀ D σ H, t' D σ H → t D σ H) : PSs X e t' := ⟨fun pins s σ H D I q => h.run pins s σ H D I (i D σ H q)⟩

section
variable {X : Cx} {S0 : Sto} {H0 : Hp}

def fVar (i : Nat) : PF := fun ρ S Q => match ρ[i]? with | some (some p) => Q p S | _ => False
def fC (p : Pv) : PF := fun _ S Q => Q p S
theorem pv_var (i : Nat) {x : Str} {pos : Pos} (hN : X.N[i]? = some x := by rfl) (hv : Vis X.env.scope x := by first | exact Or.inl rfl | exact Or.inr (Or.inl rfl) | exact Or.inr (Or.inr rfl)) (hd : (x == ("__debug__" : Str)) = false := by decide)
    (hcd : (x == ("__classdict__" : Str)) = false := by decide) : PV X S0 H0 (.Name x pos) (fVar i) := by
  refine ⟨fun ρ S Q Q' h q => ?_, PE.imp (pe_var hN hv hd hcd) fun σ H Q ⟨ρ, S, re, rs, ex, q⟩ => ?_⟩
  · unfold fVar at q ⊢
    split
    · rename_i p e; rw [e] at q; exact h _ _ q
    · rename_i e; split at q
      · rename_i p e'; exact (e p e').elim
      · exact q
  · unfold fVar at q
    split at q
    · rename_i p e
      obtain ⟨v, a, b⟩ := re.2 i p e
      exact ⟨v, a, q v H b rs (Ext.refl S H)⟩
    · exact q.elim
theorem PV.const {e : Expr} {v : V} {p : Pv} (h : PE X e (tC v)) (r : ∀ H S, RepV X.K H S p v) : PV X S0 H0 e (fC p) :=
  ⟨fun _ _ _ _ h q => h _ _ q, PE.imp h fun _ H Q ⟨_, S, _, rs, _, q⟩ => q v H (r H S) rs (Ext.refl S H)⟩
theorem pv_int {i j pos} : PV X S0 H0 (.Constant (.int i) j pos) (fC (.int i)) := PV.const pe_int fun _ _ => rfl
theorem pv_bl {b j pos} : PV X S0 H0 (.Constant (.bool b) j pos) (fC (.bl b)) := PV.const pe_bl fun _ _ => rfl
theorem pv_non {j pos} : PV X S0 H0 (.Constant .none j pos) (fC .non) := PV.const pe_non fun _ _ => rfl
theorem pv_str {x j pos} : PV X S0 H0 (.Constant (.str x) j pos) (fC (.str x)) := PV.const pe_str fun _ _ => rfl
def KRep (K : PySem.W.Frag) (p : Pv) (u : Value) : Prop := ∃ v, RelV v u ∧ ∀ H S, RepV K H S p v
theorem pv_glob {x : Str} {p : Pv} {u : Value} {pos : Pos} (hg : Gl X x) (hm : X.mg x = some u) (r : KRep X.K p u) (hd : (x == ("__debug__" : Str)) = false := by decide) : PV X S0 H0 (.Name x pos) (fC p) := by
  obtain ⟨v, r1, r2⟩ := r
  exact PV.const (pe_glob hg hm r1 hd) r2
theorem pv_bltn {x : Str} {T : String} {pos : Pos} (hg : Gl X x) (hm : X.mg x = none) (hv : bootBuiltins x = some (.type T)) (hn : x ≠ "__name__" := by decide) (hd : (x == ("__debug__" : Str)) = false := by decide) : PV X S0 H0 (.Name x pos) (fC (.ty T)) :=
  PV.const (pe_bltn (v := .ty T) hg hm hv rfl hn hd) fun _ _ => rfl

def fNil : PFs := fun _ S Q => Q [] S
def fCons (f : PF) (g : PFs) : PFs := fun ρ S Q => f ρ S fun p S1 => g ρ S1 fun ps S2 => Q (p :: ps) S2
theorem pvs_nil : PVs X S0 H0 [] fNil := ⟨fun _ _ _ _ h q => h _ _ q, PA.imp pa_nil fun _ H Q ⟨_, S, _, rs, _, q⟩ => q [] H rfl rs (Ext.refl S H)⟩
theorem pvs_cons {e : Expr} {es : List Expr} {f : PF} {g : PFs} (h1 : PV X S0 H0 e f) (h2 : PVs X S0 H0 es g) (hs : starEach (e :: es) X.env = (false, eval e X.env) :: starEach es X.env := by rfl) : PVs X S0 H0 (e :: es) (fCons f g) := by
  refine ⟨fun ρ S Q Q' h q => h1.mono _ _ _ _ (fun p S1 q => h2.mono _ _ _ _ (fun ps S2 q => h _ _ q) q) q, PA.imp (pa_cons h1.pe h2.pa hs) fun σ H Q ⟨ρ, S, re, rs, ex, q⟩ => ?_⟩
  refine ⟨ρ, S, re, rs, ex, h1.mono _ _ _ _ (fun p S1 q v H1 rv rs1 ex1 => ?_) q⟩
  refine ⟨ρ, S1, re.ext rs ex1, rs1, ex.trans ex1, h2.mono _ _ _ _ (fun ps S2 q vs H2 rvs rs2 ex2 => ?_) q⟩
  exact q (v :: vs) H2 ⟨v, vs, rfl, RepV.ext rs1 ex2 p v rv, rvs⟩ rs2 (ex1.trans ex2)

abbrev O1 := Pv → Sto → QV → Prop
abbrev O2 := Pv → Pv → Sto → QV → Prop
abbrev On := List Pv → Sto → QV → Prop
structure Sim2 (K : PySem.W.Frag) (r : R2) (o : O2) : Prop where
  mono : ∀ x y S Q Q', (∀ p S', Q p S' → Q' p S') → o x y S Q → o x y S Q'
  run : ∀ x y S Qp v u H Q, RepV K H S x v → RepV K H S y u → RepS K H S → o x y S Qp → (∀ p S' z H', Qp p S' → RepV K H' S' p z → RepS K H' S' → Ext S H S' H' → Q z H') → r v u H Q
structure SimN (K : PySem.W.Frag) (r : List V → Hp → VK → Prop) (o : On) : Prop where
  mono : ∀ x S Q Q', (∀ p S', Q p S' → Q' p S') → o x S Q → o x S Q'
  run : ∀ x S Qp v H Q, RepVs K H S x v → RepS K H S → o x S Qp → (∀ p S' z H', Qp p S' → RepV K H' S' p z → RepS K H' S' → Ext S H S' H' → Q z H') → r v H Q

def f1 (o : O1) (f : PF) : PF := fun ρ S Q => f ρ S fun p S1 => o p S1 Q
def f2 (o : O2) (f g : PF) : PF := fun ρ S Q => f ρ S fun p S1 => g ρ S1 fun q S2 => o p q S2 Q
def fN (o : On) (f : PFs) : PF := fun ρ S Q => f ρ S fun ps S1 => o ps S1 Q
variable {a b : Expr} {fa fb : PF} {pos : Pos}
theorem lift2 {r : R2} {o : O2} (s : Sim2 X.K r o) (ha : PV X S0 H0 a fa) (hb : PV X S0 H0 b fb) {σ : L2.St} {H : Hp} {Q : VK} (h : lift X.K S0 H0 (f2 o fa fb) σ H Q) :
    lift X.K S0 H0 fa σ H fun v H1 => lift X.K S0 H0 fb σ H1 fun u H2 => r v u H2 Q := by
  obtain ⟨ρ, S, re, rs, ex, q⟩ := h
  refine ⟨ρ, S, re, rs, ex, ha.mono _ _ _ _ (fun p S1 q v H1 rv rs1 ex1 => ?_) q⟩
  refine ⟨ρ, S1, re.ext rs ex1, rs1, ex.trans ex1, hb.mono _ _ _ _ (fun p' S2 q u H2 ru rs2 ex2 => ?_) q⟩
  exact s.run p p' S2 _ v u H2 Q (RepV.ext rs1 ex2 p v rv) ru rs2 q fun p' S' z H' q rz rs' ex' => q z H' rz rs' ((ex1.trans ex2).trans ex')
theorem liftN {es : List Expr} {fs : PFs} {r : List V → Hp → VK → Prop} {o : On} (s : SimN X.K r o) (ha : PVs X S0 H0 es fs) {σ : L2.St} {H : Hp} {Q : VK} (h : lift X.K S0 H0 (fN o fs) σ H Q) : liftA X.K S0 H0 fs σ H fun v H1 => r v H1 Q := by
  obtain ⟨ρ, S, re, rs, ex, q⟩ := h
  refine ⟨ρ, S, re, rs, ex, ha.mono _ _ _ _ (fun p S1 q v H1 rv rs1 ex1 => ?_) q⟩
  exact s.run p S1 _ v H1 Q rv rs1 q fun p' S' z H' q rz rs' ex' => q z H' rz rs' (ex1.trans ex')
theorem f1_mono {o : O1} (m : ∀ x S Q Q', (∀ p S', Q p S' → Q' p S') → o x S Q → o x S Q') (ha : PV X S0 H0 a fa) : ∀ ρ S Q Q', (∀ p S', Q p S' → Q' p S') → f1 o fa ρ S Q → f1 o fa ρ S Q' :=
  fun ρ S Q Q' h q => ha.mono _ _ _ _ (fun p S1 q => m _ _ _ _ h q) q
theorem f2_mono {o : O2} (m : ∀ x y S Q Q', (∀ p S', Q p S' → Q' p S') → o x y S Q → o x y S Q') (ha : PV X S0 H0 a fa) (hb : PV X S0 H0 b fb) : ∀ ρ S Q Q', (∀ p S', Q p S' → Q' p S') → f2 o fa fb ρ S Q → f2 o fa fb ρ S Q' :=
  fun ρ S Q Q' h q => ha.mono _ _ _ _ (fun p S1 q => hb.mono _ _ _ _ (fun p S2 q => m _ _ _ _ _ h q) q) q
theorem fN_mono {es : List Expr} {fs : PFs} {o : On} (m : ∀ x S Q Q', (∀ p S', Q p S' → Q' p S') → o x S Q → o x S Q') (ha : PVs X S0 H0 es fs) : ∀ ρ S Q Q', (∀ p S', Q p S' → Q' p S') → fN o fs ρ S Q → fN o fs ρ S Q' :=
  fun ρ S Q Q' h q => ha.mono _ _ _ _ (fun p S1 q => m _ _ _ _ h q) q

theorem pv_op {op : Operator} {r : R2} {o : O2} (ho : OpR X (binaryOp op) r) (s : Sim2 X.K r o) (ha : PV X S0 H0 a fa) (hb : PV X S0 H0 b fb) : PV X S0 H0 (.BinOp a op b pos) (f2 o fa fb) :=
  ⟨f2_mono s.mono ha hb, PE.imp (pe_op ho ha.pe hb.pe) fun _ _ _ h => lift2 s ha hb h⟩
theorem pv_cmp {op : CmpOp} {r : R2} {o : O2} (ho : OpR X (compareOp op) r) (s : Sim2 X.K r o) (ha : PV X S0 H0 a fa) (hb : PV X S0 H0 b fb) (hm : behindInMarks op b = false) : PV X S0 H0 (.Compare a [op] [b] pos) (f2 o fa fb) :=
  ⟨f2_mono s.mono ha hb, PE.imp (pe_cmpR ho ha.pe hb.pe hm) fun _ _ _ h => lift2 s ha hb h⟩
theorem OpR.or {f : Value → Value → Sem Value} {r r' : R2} (h : OpR X f r) (h' : OpR X f r') : OpR X f (fun x y H Q => r x y H Q ∨ r' x y H Q) := fun pins s σ H x y v u Q I rx ry q =>
  q.elim (fun q => h pins s σ H x y v u Q I rx ry q) fun q => h' pins s σ H x y v u Q I rx ry q
theorem UnR.or {f : Value → Sem Value} {r r' : V → Hp → VK → Prop} (h : UnR X f r) (h' : UnR X f r') : UnR X f (fun x H Q => r x H Q ∨ r' x H Q) := fun pins s σ H x v Q I rx q =>
  q.elim (fun q => h pins s σ H x v Q I rx q) fun q => h' pins s σ H x v Q I rx q
theorem CallR.or {f : Value} {r r' : List V → Hp → VK → Prop} (h : CallR X f r) (h' : CallR X f r') : CallR X f (fun x H Q => r x H Q ∨ r' x H Q) := fun pins s σ H x v Q I rx q =>
  q.elim (fun q => h pins s σ H x v Q I rx q) fun q => h' pins s σ H x v Q I rx q
theorem pv_callB {x : Str} {p : Pos} {e : Expr} {es : List Expr} {fs : PFs} {id : String} {r : List V → Hp → VK → Prop} {o : On} (hc : CallR X (.builtin id) r) (s : SimN X.K r o) (hg : Gl X x) (hm : X.mg x = none) (hv : bootBuiltins x = some (.builtin id)) (ha : PVs X S0 H0 (e :: es) fs) (hn : x ≠ "__name__" := by decide) (hdb : (x == ("__debug__" : Str)) = false := by decide)
    (he : starEach (e :: es) X.env = (false, eval e X.env) :: starEach es X.env := by rfl) (hpl : (backTo pos (starEach es X.env)).any (·.1) = false := by rfl) : PV X S0 H0 (.Call (.Name x p) (e :: es) [] pos) (fN o fs) :=
  ⟨fN_mono s.mono ha, PE.imp (pe_callB hc hg hm hv ha.pa hn hdb he hpl) fun _ _ _ h => liftN s ha h⟩
theorem pv_callTy {x : Str} {p : Pos} {e : Expr} {es : List Expr} {fs : PFs} {T : String} {r : List V → Hp → VK → Prop} {o : On} (hc : CallR X (.type T) r) (s : SimN X.K r o) (hg : Gl X x) (hm : X.mg x = none) (hv : bootBuiltins x = some (.type T)) (ha : PVs X S0 H0 (e :: es) fs) (hn : x ≠ "__name__" := by decide) (hdb : (x == ("__debug__" : Str)) = false := by decide)
    (he : starEach (e :: es) X.env = (false, eval e X.env) :: starEach es X.env := by rfl) (hpl : (backTo pos (starEach es X.env)).any (·.1) = false := by rfl) : PV X S0 H0 (.Call (.Name x p) (e :: es) [] pos) (fN o fs) :=
  ⟨fN_mono s.mono ha, PE.imp (pe_callTy hc hg hm hv ha.pa hn hdb he hpl) fun _ _ _ h => liftN s ha h⟩

theorem Ext.newT {K : PySem.W.Frag} {S : Sto} {H : Hp} {p : Addr} {o : HO} (h : H p = none) : Ext S H S (upd H p o) :=
  ⟨fun a u ha _ => by rw [upd_ne (ne_of_none ha h)]; exact ha, fun _ h => .inl h⟩
theorem RepS.ext' {K : PySem.W.Frag} {S : Sto} {H H' : Hp} (rs : RepS K H S) (e : Ext S H S H') (hk : ∀ a m, S a = some m → H' a = H a) : RepS K H' S := fun a m h => by
  have q := rs a m h
  cases m with
  | lst xs => obtain ⟨vs, e1, r⟩ := q; exact ⟨vs, (hk a _ h).trans e1, RepVs.ext rs e _ _ r⟩
  | dct ks ps => obtain ⟨vs, e1, r, r'⟩ := q; exact ⟨vs, (hk a _ h).trans e1, RepVs.ext rs e _ _ r, RepVs.ext rs e _ _ r'⟩
  | tab n => exact tab_ext rs e q (hk a _ h)
  | exc C => obtain ⟨oe, e1, r⟩ := q; exact ⟨oe, (hk a _ h).trans e1, r⟩
  | lck o kvs => exact (hk a _ h).trans q
  | ob F ks xs => obtain ⟨ws, us, e1, o1, r, r'⟩ := q; exact ⟨ws, us, (hk a _ h).trans e1, o1, RepVs.ext rs e _ _ r, RepVs.ext rs e _ _ r'⟩
theorem RepS.newT {K : PySem.W.Frag} {S : Sto} {H : Hp} {p : Addr} {o : HO} (rs : RepS K H S) (h : H p = none) : RepS K (upd H p o) S :=
  rs.ext' (Ext.newT (K := K) h) fun a m ha => upd_ne (by rintro rfl; rw [rs.fr h] at ha; cases ha)
def oTup : On := fun ps S Q => ps.length ≤ sizeLine ∧ Q (.tup ps) S
def oLst : On := fun ps S Q => ps.length ≤ sizeLine ∧ Q (.lst ps) S
def oLstT : On := fun ps S Q => ps.length ≤ sizeLine ∧ ∀ a, S a = none → Q (.ref a) (put S a (.lst ps))
theorem pv_tup {es : List Expr} {fs : PFs} {k : Nat} (h : PVs X S0 H0 es fs) : PV X S0 H0 (.Tuple es k pos) (fN oTup fs) := by
  refine ⟨fN_mono (fun _ _ _ _ h q => ⟨q.1, h _ _ q.2⟩) h, PE.imp (pe_tup h.pa) fun σ H Q ⟨ρ, S, re, rs, ex, q⟩ => ?_⟩
  refine ⟨ρ, S, re, rs, ex, h.mono _ _ _ _ (fun ps S1 q vs H1 rv rs1 ex1 => ⟨by rw [rv.len]; exact q.1, fun p np => ?_⟩) q⟩
  have e := Ext.newT (K := X.K) (S := S1) (o := .tup vs) np
  exact q.2 (.ref p) _ ⟨p, vs, rfl, .inl (.inl upd_same), RepVs.ext rs1 e _ _ rv⟩ (rs1.newT np) (ex1.trans e)
theorem pv_lst {es : List Expr} {fs : PFs} (h : PVs X S0 H0 es fs) : PV X S0 H0 (.List es pos) (fN oLst fs) := by
  refine ⟨fN_mono (fun _ _ _ _ h q => ⟨q.1, h _ _ q.2⟩) h, PE.imp (pe_lst h.pa) fun σ H Q ⟨ρ, S, re, rs, ex, q⟩ => ?_⟩
  refine ⟨ρ, S, re, rs, ex, h.mono _ _ _ _ (fun ps S1 q vs H1 rv rs1 ex1 => ⟨by rw [rv.len]; exact q.1, fun p np => ?_⟩) q⟩
  have e := Ext.newT (K := X.K) (S := S1) (o := .lst vs) np
  exact q.2 (.ref p) _ ⟨p, vs, rfl, upd_same, rs1.fr np, RepVs.ext rs1 e _ _ rv⟩ (rs1.newT np) (ex1.trans e)
theorem Ext.newS {S : Sto} {H : Hp} {p : Addr} {o : HO} {m : Mo} (h : H p = none) : Ext S H (put S p m) (upd H p o) :=
  ⟨fun a u ha _ => by rw [upd_ne (ne_of_none ha h)]; exact ha, fun a ha => by
    by_cases e : a = p
    · subst e; exact .inr h
    · rw [put_ne e] at ha; exact .inl ha⟩
theorem RepS.newL {K : PySem.W.Frag} {S : Sto} {H : Hp} {p : Addr} {vs : List V} {ps : List Pv} (rs : RepS K H S) (h : H p = none) (rv : RepVs K H S ps vs) : RepS K (upd H p (.lst vs)) (put S p (.lst ps)) := fun a m ha => by
  have e := Ext.newS (S := S) (o := .lst vs) (m := .lst ps) h
  by_cases z : a = p
  · subst z
    rw [put_same] at ha; cases ha
    exact ⟨vs, upd_same, RepVs.ext rs e _ _ rv⟩
  · rw [put_ne z] at ha
    have q := rs a m ha
    cases m with
    | lst xs => obtain ⟨us, e1, r⟩ := q; exact ⟨us, by rw [upd_ne z]; exact e1, RepVs.ext rs e _ _ r⟩
    | dct ks xs => obtain ⟨us, e1, r, r'⟩ := q; exact ⟨us, by rw [upd_ne z]; exact e1, RepVs.ext rs e _ _ r, RepVs.ext rs e _ _ r'⟩
    | tab n => exact tab_ext rs e q (by rw [upd_ne z])
    | exc C => obtain ⟨oe, e1, r⟩ := q; exact ⟨oe, by rw [upd_ne z]; exact e1, r⟩
    | lck o kvs => exact (upd_ne z).trans q
    | ob F ks xs => obtain ⟨ws, us, e1, o1, r, r'⟩ := q; exact ⟨ws, us, by rw [upd_ne z]; exact e1, o1, RepVs.ext rs e _ _ r, RepVs.ext rs e _ _ r'⟩
theorem pv_lstT {es : List Expr} {fs : PFs} (h : PVs X S0 H0 es fs) : PV X S0 H0 (.List es pos) (fN oLstT fs) := by
  refine ⟨fN_mono (fun _ _ _ _ h q => ⟨q.1, fun a ha => h _ _ (q.2 a ha)⟩) h, PE.imp (pe_lst h.pa) fun σ H Q ⟨ρ, S, re, rs, ex, q⟩ => ?_⟩
  refine ⟨ρ, S, re, rs, ex, h.mono _ _ _ _ (fun ps S1 q vs H1 rv rs1 ex1 => ⟨by rw [rv.len]; exact q.1, fun p np => ?_⟩) q⟩
  exact q.2 p (rs1.fr np) (.ref p) _ rfl (rs1.newL np rv) (ex1.trans (Ext.newS np))

def fBV (f : PF) : PFB := fun ρ S Q => f ρ S fun p S1 => match p with | .bl b => Q b S1 | _ => False
theorem fBV_mono {e : Expr} {f : PF} (h : PV X S0 H0 e f) : ∀ ρ S Q Q', (∀ p S', Q p S' → Q' p S') → fBV f ρ S Q → fBV f ρ S Q' := fun ρ S Q Q' i q => h.mono _ _ _ _ (fun p S1 q => by
  cases p <;> first | exact i _ _ q | exact q) q
theorem liftBV {e : Expr} {f : PF} (h : PV X S0 H0 e f) {σ : L2.St} {H : Hp} {Q : Bool → Hp → Prop} (q : liftB X.K S0 H0 (fBV f) σ H Q) : tB (lift X.K S0 H0 f) σ H Q := by
  obtain ⟨ρ, S, re, rs, ex, q⟩ := q
  refine ⟨ρ, S, re, rs, ex, h.mono _ _ _ _ (fun p S1 q v H1 rv rs1 ex1 => ?_) q⟩
  cases p with
  | bl b => exact ⟨b, rv, q H1 rs1 ex1⟩
  | _ => exact q.elim
theorem pb_val {e : Expr} {f : PF} (h : PV X S0 H0 e f) (he : ∀ whole, isTrue e X.env whole = (do let v ← whole; standAt e.pos; holding [v] (truthy v)) := by intro _; rfl) : PB X S0 H0 e (fBV f) :=
  ⟨fBV_mono h, PT.imp (pt_val h.pe he) fun _ _ _ q => liftBV h q⟩
theorem pb_cmp {op : CmpOp} {r : R2} {o : O2} (ho : OpR X (compareOp op) r) (s : Sim2 X.K r o) (ha : PV X S0 H0 a fa) (hb : PV X S0 H0 b fb) (hm : behindInMarks op b = false) : PB X S0 H0 (.Compare a [op] [b] pos) (fBV (f2 o fa fb)) := by
  have h := pv_cmp (pos := pos) ho s ha hb hm
  refine ⟨fBV_mono h, PT.imp (pt_cmpR ho ha.pe hb.pe hm) fun σ H Q q => ?_⟩
  obtain ⟨ρ, S, re, rs, ex, q⟩ := q
  refine ⟨ρ, S, re, rs, ex, ha.mono _ _ _ _ (fun p S1 q v H1 rv rs1 ex1 => ?_) q⟩
  refine ⟨ρ, S1, re.ext rs ex1, rs1, ex.trans ex1, hb.mono _ _ _ _ (fun p' S2 q u H2 ru rs2 ex2 => ?_) q⟩
  refine s.run p p' S2 _ v u H2 _ (RepV.ext rs1 ex2 p v rv) ru rs2 q fun p' S' z H' q rz rs' ex' => ?_
  cases p' with
  | bl c => exact ⟨c, rz, q H' rs' ((ex1.trans ex2).trans ex')⟩
  | _ => exact q.elim
def fNot (f : PFB) : PFB := fun ρ S Q => f ρ S fun b S1 => Q (!b) S1
def fAnd (f g : PFB) : PFB := fun ρ S Q => f ρ S fun b S1 => cnd b (g ρ S1 Q) (Q false S1)
def fOr (f g : PFB) : PFB := fun ρ S Q => f ρ S fun b S1 => cnd b (Q true S1) (g ρ S1 Q)
theorem pb_not {e : Expr} {f : PFB} (h : PB X S0 H0 e f) : PB X S0 H0 (.UnaryOp .Not e pos) (fNot f) :=
  ⟨fun ρ S Q Q' i q => h.mono _ _ _ _ (fun _ _ q => i _ _ q) q, PT.imp (pt_not h.pt) fun _ _ _ q => q⟩
theorem and_mono {f g : PFB} (hf : ∀ ρ S Q Q', (∀ p S', Q p S' → Q' p S') → f ρ S Q → f ρ S Q') (hg : ∀ ρ S Q Q', (∀ p S', Q p S' → Q' p S') → g ρ S Q → g ρ S Q') :
    ∀ ρ S Q Q', (∀ p S', Q p S' → Q' p S') → fAnd f g ρ S Q → fAnd f g ρ S Q' := fun ρ S Q Q' i q => hf _ _ _ _ (fun b S1 q => by
  cases b with
  | true => exact hg _ _ _ _ i q
  | false => exact i _ _ q) q
theorem or_mono {f g : PFB} (hf : ∀ ρ S Q Q', (∀ p S', Q p S' → Q' p S') → f ρ S Q → f ρ S Q') (hg : ∀ ρ S Q Q', (∀ p S', Q p S' → Q' p S') → g ρ S Q → g ρ S Q') :
    ∀ ρ S Q Q', (∀ p S', Q p S' → Q' p S') → fOr f g ρ S Q → fOr f g ρ S Q' := fun ρ S Q Q' i q => hf _ _ _ _ (fun b S1 q => by
  cases b with
  | true => exact i _ _ q
  | false => exact hg _ _ _ _ i q) q
theorem pbw_and1 {e : Expr} {f : PFB} (h : PB X S0 H0 e f) : PBw X S0 H0 (.BoolOp .And [e] pos) f := ⟨h.mono, pw_and1 h.pt⟩
theorem pbw_or1 {e : Expr} {f : PFB} (h : PB X S0 H0 e f) : PBw X S0 H0 (.BoolOp .Or [e] pos) f := ⟨h.mono, pw_or1 h.pt⟩
theorem pbw_and {e e' : Expr} {es : List Expr} {f g : PFB} (h : PB X S0 H0 e f) (h' : PBw X S0 H0 (.BoolOp .And (e' :: es) pos) g) : PBw X S0 H0 (.BoolOp .And (e :: e' :: es) pos) (fAnd f g) := by
  refine ⟨and_mono h.mono h'.mono, PW.imp (pw_and h.pt h'.pw) fun σ H Q ⟨ρ, S, re, rs, ex, q⟩ => ?_⟩
  refine ⟨ρ, S, re, rs, ex, h.mono _ _ _ _ (fun b S1 q H1 rs1 ex1 => ?_) q⟩
  cases b with
  | true => exact ⟨ρ, S1, re.ext rs ex1, rs1, ex.trans ex1, h'.mono _ _ _ _ (fun b S2 q H2 rs2 ex2 => q H2 rs2 (ex1.trans ex2)) q⟩
  | false => exact q H1 rs1 ex1
theorem pbw_or {e e' : Expr} {es : List Expr} {f g : PFB} (h : PB X S0 H0 e f) (h' : PBw X S0 H0 (.BoolOp .Or (e' :: es) pos) g) : PBw X S0 H0 (.BoolOp .Or (e :: e' :: es) pos) (fOr f g) := by
  refine ⟨or_mono h.mono h'.mono, PW.imp (pw_or h.pt h'.pw) fun σ H Q ⟨ρ, S, re, rs, ex, q⟩ => ?_⟩
  refine ⟨ρ, S, re, rs, ex, h.mono _ _ _ _ (fun b S1 q H1 rs1 ex1 => ?_) q⟩
  cases b with
  | false => exact ⟨ρ, S1, re.ext rs ex1, rs1, ex.trans ex1, h'.mono _ _ _ _ (fun b S2 q H2 rs2 ex2 => q H2 rs2 (ex1.trans ex2)) q⟩
  | true => exact q H1 rs1 ex1
theorem PBw.pb {e : Expr} {f : PFB} (h : PBw X S0 H0 e f) : PB X S0 H0 e f := ⟨h.mono, h.pw.pt⟩
def fNotV (f : PF) : PF := fun ρ S Q => f ρ S fun p S1 => match p with | .bl b => Q (.bl (!b)) S1 | _ => False
def fAndV (f g : PF) : PF := fun ρ S Q => f ρ S fun p S1 => match p with | .bl b => cnd b (g ρ S1 Q) (Q (.bl false) S1) | _ => False
theorem pv_one {op} (h : PV X S0 H0 a fa) : PV X S0 H0 (.BoolOp op [a] pos) fa := ⟨h.mono, pe_one h.pe⟩
theorem pv_not (h : PV X S0 H0 a fa) : PV X S0 H0 (.UnaryOp .Not a pos) (fNotV fa) := by
  refine ⟨fun ρ S Q Q' i q => h.mono _ _ _ _ (fun p S1 q => by cases p <;> first | exact i _ _ q | exact q) q, PE.imp (pe_not h.pe) fun σ H Q ⟨ρ, S, re, rs, ex, q⟩ => ?_⟩
  refine ⟨ρ, S, re, rs, ex, h.mono _ _ _ _ (fun p S1 q v H1 rv rs1 ex1 => ?_) q⟩
  cases p with
  | bl b => exact ⟨b, rv, q (.bl (!b)) H1 rfl rs1 ex1⟩
  | _ => exact q.elim
theorem pv_and {e' : Expr} {es : List Expr} (h : PV X S0 H0 a fa) (h' : PV X S0 H0 (.BoolOp .And (e' :: es) pos) fb) : PV X S0 H0 (.BoolOp .And (a :: e' :: es) pos) (fAndV fa fb) := by
  refine ⟨fun ρ S Q Q' i q => h.mono _ _ _ _ (fun p S1 q => ?_) q, PE.imp (pe_and h.pe h'.pe) fun σ H Q ⟨ρ, S, re, rs, ex, q⟩ => ?_⟩
  · cases p with
    | bl b => cases b with
      | true => exact h'.mono _ _ _ _ i q
      | false => exact i _ _ q
    | _ => exact q
  · refine ⟨ρ, S, re, rs, ex, h.mono _ _ _ _ (fun p S1 q v H1 rv rs1 ex1 => ?_) q⟩
    cases p with
    | bl b =>
      refine ⟨b, rv, ?_⟩
      cases b with
      | true => exact ⟨ρ, S1, re.ext rs ex1, rs1, ex.trans ex1, h'.mono _ _ _ _ (fun b S2 q v H2 rv rs2 ex2 => q v H2 rv rs2 (ex1.trans ex2)) q⟩
      | false => exact q (.bl false) H1 rfl rs1 ex1
    | _ => exact q.elim
end
end PL

namespace PL
open PySem PySem.Spec PyProof.Rows L2

def top (S : Sto) : Pv → Pv
  | .ref a => match S a with
    | some (.lst xs) => .lst xs
    | some (.dct ks vs) => .dct ks vs
    | _ => .ref a
  | .non => .non | .bl b => .bl b | .int i => .int i | .str x => .str x | .tup xs => .tup xs | .lst xs => .lst xs | .dct k v => .dct k v | .ty n => .ty n | .scr xs => .scr xs | .tpx xs => .tpx xs
mutual
def toD : Pv → PyData
  | .non => .none | .bl b => .bool b | .int i => .int i | .str x => .str x | .tup xs => .tuple (toDs xs) | .lst xs => .list (toDs xs) | .scr xs => .list (toDs xs) | .tpx _ => .none | .dct _ _ => .dict [] | .ref _ => .none | .ty _ => .none
def toDs : List Pv → List PyData
  | [] => []
  | p :: ps => toD p :: toDs ps
end
mutual
def isD : Pv → Bool
  | .non => true | .bl _ => true | .int _ => true | .str _ => true | .tup xs => isDs xs | .lst xs => isDs xs | .scr xs => isDs xs | .tpx _ => false | .dct _ _ => false | .ref _ => false | .ty _ => false
def isDs : List Pv → Bool
  | [] => true
  | p :: ps => isD p && isDs ps
end
section
variable {K : PySem.W.Frag} {H : Hp} {S : Sto}
theorem sqL_of {a : Addr} {vs : List V} (h : SqL K (fun _ => none) a vs) : SqL K H a vs := by
  rcases h with (h | ⟨o, h⟩) | h
  · cases h
  · cases h
  · exact .inr h
theorem sqL_of2 {a : Addr} {vs : List V} (h : (∃ o, H a = some (.frz o (.lst vs))) ∨ SqL K (fun _ => none) a vs) : SqL K H a vs := h.elim (fun z => .inl (.inr z)) sqL_of
mutual
theorem dp_of : ∀ (p : Pv) (v : V), RepV K H S p v → isD p = true → Dp K H v (toD p)
  | .non, _, h, _ => by have e : _ = _ := h; rw [e]; exact .non
  | .bl _, _, h, _ => by have e : _ = _ := h; rw [e]; exact .bl _
  | .int _, _, h, _ => by have e : _ = _ := h; rw [e]; exact .int _
  | .str _, _, h, _ => by have e : _ = _ := h; rw [e]; exact .str _
  | .tup ps, _, ⟨a, vs, e1, h, r⟩, d => by rw [e1]; exact .tup h (dps_of ps vs r (by simpa [isD] using d))
  | .lst ps, _, ⟨a, vs, e1, h, hs, r⟩, d => by rw [e1]; exact .lst (.inl (.inl h)) (dps_of ps vs r (by simpa [isD] using d))
  | .scr ps, _, ⟨a, vs, e1, h, r⟩, d => by rw [e1]; exact .lst (sqL_of2 h) (dps_of ps vs r (by simpa [isD] using d))
  | .tpx _, _, _, d => by simp [isD] at d
  | .dct _ _, _, _, d => by simp [isD] at d
  | .ref _, _, _, d => by simp [isD] at d
  | .ty _, _, _, d => by simp [isD] at d
theorem dps_of : ∀ (ps : List Pv) (vs : List V), RepVs K H S ps vs → isDs ps = true → DpAll K H vs (toDs ps)
  | [], _, h, _ => by have e : _ = _ := h; rw [e]; exact .nil
  | p :: ps, _, ⟨v, r, e1, h1, h2⟩, d => by
    have d' : isD p = true ∧ isDs ps = true := by simpa [isDs] using d
    rw [e1]; exact .cons (dp_of p v h1 d'.1) (dps_of ps r h2 d'.2)
end
theorem dp_top (rs : RepS K H S) {p : Pv} {v : V} (h : RepV K H S p v) (d : isD (top S p) = true) : Dp K H v (toD (top S p)) := by
  cases p with
  | ref a =>
    simp only [top] at d ⊢
    cases q : S a with
    | none => rw [q] at d; simp [isD] at d
    | some m =>
      cases m with
      | lst xs =>
        rw [q] at d
        obtain ⟨vs, e, r⟩ := rs a _ q
        have e1 : v = _ := h
        rw [e1]
        exact .lst (.inl (.inl e)) (dps_of xs vs r (by simpa [isD] using d))
      | dct ks xs => rw [q] at d; simp [isD] at d
      | tab n => rw [q] at d; simp [isD] at d
      | exc C => rw [q] at d; simp [isD] at d
      | lck o kvs => rw [q] at d; simp [isD] at d
      | ob F ks xs => rw [q] at d; simp [isD] at d
  | non => exact dp_of _ v h d
  | bl b => exact dp_of _ v h d
  | int i => exact dp_of _ v h d
  | str x => exact dp_of _ v h d
  | tup xs => exact dp_of _ v h d
  | lst xs => exact dp_of _ v h d
  | scr xs => exact dp_of _ v h d
  | tpx xs => simp [top, isD] at d
  | dct ks xs => exact dp_of _ v h d
  | ty n => exact dp_of _ v h d
def rdL (S : Sto) : Pv → Option (List Pv)
  | .lst xs => some xs
  | .scr xs => some xs
  | .ref a => match S a with
    | some (.lst xs) => some xs
    | _ => none
  | _ => none
def rdM (S : Sto) : Pv → Option (List Pv)
  | .lst xs => some xs
  | .ref a => match S a with
    | some (.lst xs) => some xs
    | _ => none
  | _ => none
@[simp] theorem rdM_lst (S : Sto) (xs : List Pv) : rdM S (.lst xs) = some xs := rfl
@[simp] theorem rdL_lst (S : Sto) (xs : List Pv) : rdL S (.lst xs) = some xs := rfl
@[simp] theorem rdL_scr (S : Sto) (xs : List Pv) : rdL S (.scr xs) = some xs := rfl
theorem rdM_rep (rs : RepS K H S) {p : Pv} {v : V} {xs : List Pv} (h : RepV K H S p v) (e : rdM S p = some xs) : ∃ a vs, v = .ref a ∧ H a = some (.lst vs) ∧ RepVs K H S xs vs := by
  cases p with
  | lst ys =>
    have e' : ys = xs := by simpa [rdM] using e
    subst e'
    obtain ⟨a, vs, e1, h, hs, r⟩ := h
    exact ⟨a, vs, e1, h, r⟩
  | ref a =>
    simp only [rdM] at e
    split at e
    · rename_i ys q
      have e' : ys = xs := by simpa using e
      subst e'
      obtain ⟨vs, e1, r⟩ := rs a _ q
      exact ⟨a, vs, h, e1, r⟩
    · cases e
  | _ => simp [rdM] at e
theorem rdL_rep (rs : RepS K H S) {p : Pv} {v : V} {xs : List Pv} (h : RepV K H S p v) (e : rdL S p = some xs) : ∃ a vs, v = .ref a ∧ SqL K H a vs ∧ RepVs K H S xs vs := by
  by_cases q : ∃ ys, p = .scr ys
  · obtain ⟨ys, rfl⟩ := q
    have e' : ys = xs := by simpa [rdL] using e
    subst e'
    obtain ⟨a, vs, e1, h, r⟩ := h
    exact ⟨a, vs, e1, sqL_of2 h, r⟩
  · obtain ⟨a, vs, e1, h1, r⟩ := rdM_rep (xs := xs) rs h (by
      cases p with
      | scr ys => exact absurd ⟨ys, rfl⟩ q
      | lst ys => exact e
      | ref a => exact e
      | _ => simp [rdL] at e)
    exact ⟨a, vs, e1, .inl (.inl h1), r⟩
end

def oAdd : O2 := fun x y S Q => match x, y with
  | .int i, .int j => Q (.int (i + j)) S
  | .str x, .str y => x.length + y.length ≤ sizeLine ∧ Q (.str (x ++ y)) S
  | .tup xs, .tup ys => xs.length + ys.length ≤ sizeLine ∧ Q (.tup (xs ++ ys)) S
  | x, y => match rdM S x, rdM S y with
    | some xs, some ys => xs.length + ys.length ≤ sizeLine ∧ Q (.lst (xs ++ ys)) S
    | _, _ => False
def oSub : O2 := fun x y S Q => match x, y with
  | .int i, .int j => Q (.int (i - j)) S
  | _, _ => False
def oMul : O2 := fun x y S Q => match x, y with
  | .int i, .int j => IntMulOk i j ∧ Q (.int (i * j)) S
  | .lst xs, .int k => (-(2 ^ 63) ≤ k ∧ k < 2 ^ 63 ∧ xs.length * k.toNat ≤ sizeLine) ∧ Q (.lst (List.replicate k.toNat xs).flatten) S
  | .str x, .int k => MulOk x k ∧ Q (.str (Txt.mul x k)) S
  | .tup xs, .int k => (xs ≠ [] ∧ 2 ≤ k ∧ k ≤ 1000 ∧ xs.length ≤ 1000) ∧ Q (.tup (List.replicate k.toNat xs).flatten) S
  | _, _ => False
def oDiv : O2 := fun x y S Q => match x, y with
  | .int i, .int j => (j ≠ 0 ∧ j.natAbs.log2 < 9000) ∧ Q (.int (i.fdiv j)) S
  | _, _ => False
def oMod : O2 := fun x y S Q => match x, y with
  | .int i, .int j => j ≠ 0 ∧ Q (.int (i.fmod j)) S
  | _, _ => False
def oPow : O2 := fun x y S Q => match x, y with
  | .int i, .int j => CPow i j ∧ Q (.int (i ^ j.toNat)) S
  | _, _ => False
section
variable {X : Cx} {S0 : Sto} {H0 : Hp} {a b : Expr} {fa fb : PF} {pos : Pos}
theorem Sim2.ints {K : PySem.W.Frag} {r : R2} {o : O2} {C : Int → Int → Prop} {g : Int → Int → Pv} {gv : Int → Int → V} (hg : ∀ i j H S, RepV K H S (g i j) (gv i j))
    (ho : ∀ x y S Q, o x y S Q ↔ ∃ i j, x = .int i ∧ y = .int j ∧ C i j ∧ Q (g i j) S) (hr : ∀ x y H Q, r x y H Q ↔ ∃ i j, x = .int i ∧ y = .int j ∧ C i j ∧ Q (gv i j) H) : Sim2 K r o := by
  refine ⟨fun x y S Q Q' h q => ?_, fun x y S Qp v u H Q rx ry rs h k => ?_⟩
  · obtain ⟨i, j, e1, e2, c, q⟩ := (ho _ _ _ _).mp q
    exact (ho _ _ _ _).mpr ⟨i, j, e1, e2, c, h _ _ q⟩
  · obtain ⟨i, j, rfl, rfl, c, q⟩ := (ho _ _ _ _).mp h
    exact (hr _ _ _ _).mpr ⟨i, j, rx, ry, c, k _ S _ H q (hg i j H S) rs (Ext.refl S H)⟩
theorem int2_iff {P : Int → Int → Prop} {x y : Pv} : (match x, y with | .int i, .int j => P i j | _, _ => False) ↔ ∃ i j, x = .int i ∧ y = .int j ∧ P i j := by
  cases x <;> cases y <;> simp
theorem pv_sub (ha : PV X S0 H0 a fa) (hb : PV X S0 H0 b fb) : PV X S0 H0 (.BinOp a .Sub b pos) (f2 oSub fa fb) :=
  pv_op op_sub (Sim2.ints (C := fun _ _ => True) (g := fun i j => .int (i - j)) (gv := fun i j => .int (i - j)) (fun _ _ _ _ => rfl) (fun x y S Q => by simp only [oSub, int2_iff, true_and]) fun x y H Q => by simp [rI0]) ha hb
theorem op_divZ : OpR X (binaryOp .FloorDiv) (rI (fun _ j => j ≠ 0 ∧ j.natAbs.log2 < 9000) fun i j => .int (i.fdiv j)) := opI fun _ _ _ _ _ _ _ hc q => floordiv_int hc.1 q (.inl (PyProof.noPylong_of_log2 hc.2))
theorem op_mulZ : OpR X (binaryOp .Mult) (rI IntMulOk fun i j => .int (i * j)) := opI fun _ _ _ _ _ _ _ hc q => mul_int q hc
theorem pv_div (ha : PV X S0 H0 a fa) (hb : PV X S0 H0 b fb) : PV X S0 H0 (.BinOp a .FloorDiv b pos) (f2 oDiv fa fb) :=
  pv_op op_divZ (Sim2.ints (C := fun _ j => j ≠ 0 ∧ j.natAbs.log2 < 9000) (g := fun i j => .int (i.fdiv j)) (gv := fun i j => .int (i.fdiv j)) (fun _ _ _ _ => rfl) (fun x y S Q => by simp only [oDiv, int2_iff]) fun x y H Q => by simp [rI]) ha hb
theorem pv_mod (ha : PV X S0 H0 a fa) (hb : PV X S0 H0 b fb) : PV X S0 H0 (.BinOp a .Mod b pos) (f2 oMod fa fb) :=
  pv_op op_modN (Sim2.ints (C := fun _ j => j ≠ 0) (g := fun i j => .int (i.fmod j)) (gv := fun i j => .int (i.fmod j)) (fun _ _ _ _ => rfl) (fun x y S Q => by simp only [oMod, int2_iff]) fun x y H Q => by simp [rI]) ha hb
theorem pv_pow (ha : PV X S0 H0 a fa) (hb : PV X S0 H0 b fb) : PV X S0 H0 (.BinOp a .Pow b pos) (f2 oPow fa fb) :=
  pv_op op_pow (Sim2.ints (C := CPow) (g := fun i j => .int (i ^ j.toNat)) (gv := fun i j => .int (i ^ j.toNat)) (fun _ _ _ _ => rfl) (fun x y S Q => by simp only [oPow, int2_iff]) fun x y H Q => by simp [rI]) ha hb
theorem sim_addL {x y : Pv} {xs ys : List Pv} {S : Sto} {v u : V} {H : Hp} {Q : VK} (rs : RepS X.K H S) (rx : RepV X.K H S x v) (ry : RepV X.K H S y u) (e1 : rdM S x = some xs) (e2 : rdM S y = some ys) (hz : xs.length + ys.length ≤ sizeLine)
    (k : ∀ p vs, H p = none → RepVs X.K H S (xs ++ ys) vs → Q (.ref p) (upd H p (.lst vs))) : rCat v u H Q := by
  obtain ⟨l, vs, rfl, hl, r1⟩ := rdM_rep rs rx e1
  obtain ⟨b, us, rfl, hb, r2⟩ := rdM_rep rs ry e2
  exact ⟨l, b, vs, us, rfl, rfl, hl, hb, by rw [r1.len, r2.len]; exact hz, fun p np => k p _ np (r1.app r2)⟩
theorem newL_k {K : PySem.W.Frag} {H : Hp} {S : Sto} {xs : List Pv} {vs : List V} {p : Addr} (rs : RepS K H S) (np : H p = none) (r : RepVs K H S xs vs) : RepV K (upd H p (.lst vs)) S (.lst xs) (.ref p) ∧ RepS K (upd H p (.lst vs)) S ∧ Ext S H S (upd H p (.lst vs)) :=
  ⟨⟨p, vs, rfl, upd_same, rs.fr np, RepVs.ext rs (Ext.newT (K := K) np) _ _ r⟩, rs.newT np, Ext.newT (K := K) np⟩
theorem newT_k {K : PySem.W.Frag} {H : Hp} {S : Sto} {xs : List Pv} {vs : List V} {p : Addr} (rs : RepS K H S) (np : H p = none) (r : RepVs K H S xs vs) : RepV K (upd H p (.tup vs)) S (.tup xs) (.ref p) ∧ RepS K (upd H p (.tup vs)) S ∧ Ext S H S (upd H p (.tup vs)) :=
  ⟨⟨p, vs, rfl, .inl (.inl upd_same), RepVs.ext rs (Ext.newT (K := K) np) _ _ r⟩, rs.newT np, Ext.newT (K := K) np⟩
theorem sim_catT {xs ys : List Pv} {S : Sto} {v u : V} {H : Hp} {Q : VK} (rs : RepS X.K H S) (rx : RepV X.K H S (.tup xs) v) (ry : RepV X.K H S (.tup ys) u) (hz : xs.length + ys.length ≤ sizeLine)
    (k : ∀ z H', RepV X.K H' S (.tup (xs ++ ys)) z → RepS X.K H' S → Ext S H S H' → Q z H') : rCatA X.K v u H Q := by
  have rx' := rx
  have ry' := ry
  obtain ⟨l, vs, rfl, hl, r1⟩ := rx
  obtain ⟨b, us, rfl, hb, r2⟩ := ry
  refine ⟨l, b, vs, us, rfl, rfl, hl, hb, by rw [r1.len, r2.len]; exact hz, fun e => ?_, fun _ e => ?_, fun _ _ p np => ?_⟩
  · have e0 : xs = [] := List.length_eq_zero_iff.mp (by rw [← r1.len, e]; rfl)
    subst e0
    exact k _ H ry' rs (Ext.refl S H)
  · have e0 : ys = [] := List.length_eq_zero_iff.mp (by rw [← r2.len, e]; rfl)
    subst e0
    rw [List.append_nil] at k
    exact k _ H rx' rs (Ext.refl S H)
  · obtain ⟨a1, a2, a3⟩ := newT_k rs np (r1.app r2)
    exact k _ _ a1 a2 a3
theorem pv_add (ha : PV X S0 H0 a fa) (hb : PV X S0 H0 b fb) : PV X S0 H0 (.BinOp a .Add b pos) (f2 oAdd fa fb) := by
  refine pv_op (OpR.or op_add (OpR.or op_add_str (OpR.or op_catA op_cat))) ⟨fun x y S Q Q' h q => ?_, fun x y S Qp v u H Q rx ry rs h k => ?_⟩ ha hb
  · unfold oAdd at q ⊢
    split at q
    · exact h _ _ q
    · exact ⟨q.1, h _ _ q.2⟩
    · exact ⟨q.1, h _ _ q.2⟩
    · split at q
      · exact ⟨q.1, h _ _ q.2⟩
      · exact q.elim
  · unfold oAdd at h
    split at h
    · exact .inl ⟨_, _, rx, ry, k _ S _ H h rfl rs (Ext.refl S H)⟩
    · exact .inr (.inl ⟨_, _, rx, ry, h.1, k _ S _ H h.2 rfl rs (Ext.refl S H)⟩)
    · exact .inr (.inr (.inl (sim_catT rs rx ry h.1 fun z H' a1 a2 a3 => k _ S z H' h.2 a1 a2 a3)))
    · split at h
      · rename_i xs ys e1 e2
        exact .inr (.inr (.inr (sim_addL rs rx ry e1 e2 h.1 fun p vs np r => by
          obtain ⟨a1, a2, a3⟩ := newL_k rs np r
          exact k _ S _ _ h.2 a1 a2 a3)))
      · exact h.elim
theorem op_mul_str : OpR X (binaryOp .Mult) (fun x y H Q => ∃ i k, x = .str i ∧ y = .int k ∧ MulOk i k ∧ Q (.str (Txt.mul i k)) H) := by
  intro pins s σ H x y v u Q I rx ry h
  obtain ⟨i, k, rfl, rfl, hz, q⟩ := h
  obtain ⟨t, rfl⟩ := rx
  obtain ⟨t', rfl⟩ := ry
  exact SB.mul hz fun t' tk => ⟨.str (Txt.mul i k), H, I.tok _, ⟨_, rfl⟩, q⟩
theorem rep_flat {K : PySem.W.Frag} {H : Hp} {S : Sto} {xs : List Pv} {vs : List V} (r : RepVs K H S xs vs) : ∀ n, RepVs K H S (List.replicate n xs).flatten (List.replicate n vs).flatten
  | 0 => rfl
  | n + 1 => by rw [List.replicate_succ, List.replicate_succ, List.flatten_cons, List.flatten_cons]; exact r.app (rep_flat r n)
theorem pv_mul (ha : PV X S0 H0 a fa) (hb : PV X S0 H0 b fb) : PV X S0 H0 (.BinOp a .Mult b pos) (f2 oMul fa fb) := by
  refine pv_op (OpR.or op_mulZ (OpR.or op_rep (OpR.or op_mul_str op_repT))) ⟨fun x y S Q Q' h q => ?_, fun x y S Qp v u H Q rx ry rs h k => ?_⟩ ha hb
  · unfold oMul at q ⊢
    split at q
    · exact ⟨q.1, h _ _ q.2⟩
    · exact ⟨q.1, h _ _ q.2⟩
    · exact ⟨q.1, h _ _ q.2⟩
    · exact ⟨q.1, h _ _ q.2⟩
    · exact q.elim
  · unfold oMul at h
    split at h
    · exact .inl ⟨_, _, rx, ry, h.1, k _ S _ H h.2 rfl rs (Ext.refl S H)⟩
    · obtain ⟨l, vs, rfl, hl, hs, r⟩ := rx
      refine .inr (.inl ⟨l, _, vs, rfl, ry, hl, h.1.1, h.1.2.1, by rw [r.len]; exact h.1.2.2, fun p np => ?_⟩)
      obtain ⟨a1, a2, a3⟩ := newL_k rs np (rep_flat r _)
      exact k _ S _ _ h.2 a1 a2 a3
    · exact .inr (.inr (.inl ⟨_, _, rx, ry, h.1, k _ S _ H h.2 rfl rs (Ext.refl S H)⟩))
    · obtain ⟨l, vs, rfl, hl, r⟩ := rx
      refine .inr (.inr (.inr ⟨l, _, vs, rfl, ry, hl, ?_, h.1.2.1, h.1.2.2.1, by rw [r.len]; exact h.1.2.2.2, fun p np => ?_⟩))
      · intro e
        have := r.len
        rw [e] at this
        exact h.1.1 (List.length_eq_zero_iff.mp this.symm)
      · obtain ⟨a1, a2, a3⟩ := newT_k rs np (rep_flat r _)
        exact k _ S _ _ h.2 a1 a2 a3
    · exact h.elim
end

def oCmpI (c : Int → Int → Bool) (cs : Str → Str → Bool) (cd : PyData → PyData → Bool) : O2 := fun x y S Q => match x, y with
  | .int i, .int j => Q (.bl (c i j)) S
  | .str i, .str j => Q (.bl (cs i j)) S
  | .tup xs, .tup ys => ((isDs xs = true ∧ isDs ys = true) ∧ PySem.W.alike (toD (.tup xs)) (toD (.tup ys)) = true ∧ (toD (.tup xs)).depth ≤ 60) ∧ Q (.bl (cd (toD (.tup xs)) (toD (.tup ys)))) S
  | _, _ => False
def strLt (i j : Str) : Bool := decide (i.cps.toList < j.cps.toList)
abbrev oLt : O2 := oCmpI (fun i j => decide (i < j)) strLt (fun x y => PySem.W.dataLt x y)
abbrev oLe : O2 := oCmpI (fun i j => decide (i ≤ j)) (fun i j => !strLt j i) (fun x y => !PySem.W.dataLt y x)
abbrev oGt : O2 := oCmpI (fun i j => decide (j < i)) (fun i j => strLt j i) (fun x y => PySem.W.dataLt y x)
abbrev oGe : O2 := oCmpI (fun i j => decide (j ≤ i)) (fun i j => !strLt i j) (fun x y => !PySem.W.dataLt x y)
def rCmpD (K : PySem.W.Frag) (cd : PyData → PyData → Bool) : R2 := fun x y H Q => ∃ d e, Dp K H x d ∧ Dp K H y e ∧ PySem.W.alike d e = true ∧ d ≠ .none ∧ d.depth ≤ 60 ∧ Q (.bl (cd d e)) H
section
variable {X : Cx} {S0 : Sto} {H0 : Hp} {a b : Expr} {fa fb : PF} {pos : Pos}
theorem op_cmpD {op : CmpOp} {cd : PyData → PyData → Bool} (hu : X.A.units + 64 < cLine) (hop : ∀ (A : Around) (s : Shared) (v u : Value) (d e : PyData) (as bs : List Addr), Reads s.heap v d as → Reads s.heap u e bs → PySem.W.alike d e = true → d ≠ .none → A.units + min d.depth e.depth < cLine → PySem.SeqAt.RcOp op A s v u (cd d e))
    (hco : ∀ v u, compareOp op v u = richCompare op v u) : OpR X (compareOp op) (rCmpD X.K cd) := by
  intro pins s σ H x y v u Q I rx ry h
  obtain ⟨d, e, hd, he, al, hn, hdp, q⟩ := h
  obtain ⟨as, r1⟩ := Dp.reads I d x v hd rx
  obtain ⟨bs, r2⟩ := Dp.reads I e y u he ry
  rw [hco]
  have hm : min d.depth e.depth ≤ d.depth := Nat.min_le_left _ _
  exact hop X.A s v u d e as bs r1 r2 al hn (by omega) X.prog X.w X.xe _ ⟨.bl _, H, I, rfl, q⟩
theorem sim_cmp {K : PySem.W.Frag} {c : Int → Int → Bool} {cs : Str → Str → Bool} {cd : PyData → PyData → Bool} : Sim2 K (fun x y H Q => (rI0 (fun i j => .bl (c i j)) x y H Q ∨ ∃ i j, x = .str i ∧ y = .str j ∧ Q (.bl (cs i j)) H) ∨ rCmpD K cd x y H Q) (oCmpI c cs cd) := by
  refine ⟨fun x y S Q Q' h q => ?_, fun x y S Qp v u H Q rx ry rs h k => ?_⟩
  · unfold oCmpI at q ⊢
    split at q
    · exact h _ _ q
    · exact h _ _ q
    · exact ⟨q.1, h _ _ q.2⟩
    · exact q.elim
  · unfold oCmpI at h
    split at h
    · exact .inl (.inl ⟨_, _, rx, ry, k _ S _ H h rfl rs (Ext.refl S H)⟩)
    · exact .inl (.inr ⟨_, _, rx, ry, k _ S _ H h rfl rs (Ext.refl S H)⟩)
    · obtain ⟨⟨⟨h1, h2⟩, h3, h4⟩, h5⟩ := h
      exact .inr ⟨_, _, dp_of _ _ rx h1, dp_of _ _ ry h2, h3, (fun z => by simp [toD] at z), h4, k _ S _ H h5 rfl rs (Ext.refl S H)⟩
    · exact h.elim
theorem opLt (hu : X.A.units + 64 < cLine) : OpR X (compareOp .Lt) (fun x y H Q => (rI0 (fun i j => .bl (decide (i < j))) x y H Q ∨ ∃ i j, x = .str i ∧ y = .str j ∧ Q (.bl (strLt i j)) H) ∨ rCmpD X.K (fun x y => PySem.W.dataLt x y) x y H Q) := OpR.or (OpR.or op_lt op_lt_str) (op_cmpD hu (fun A s v u d e as bs r1 r2 al hn hd => PySem.W.rcLt_alike d e A s v u as bs r1 r2 al hn hd) fun _ _ => rfl)
theorem opLe (hu : X.A.units + 64 < cLine) : OpR X (compareOp .LtE) (fun x y H Q => (rI0 (fun i j => .bl (decide (i ≤ j))) x y H Q ∨ ∃ i j, x = .str i ∧ y = .str j ∧ Q (.bl (!strLt j i)) H) ∨ rCmpD X.K (fun x y => !PySem.W.dataLt y x) x y H Q) := OpR.or (OpR.or op_le op_le_str) (op_cmpD hu (fun A s v u d e as bs r1 r2 al hn hd => PySem.W.rcLe_alike d e A s v u as bs r1 r2 al hn hd) fun _ _ => rfl)
theorem opGt (hu : X.A.units + 64 < cLine) : OpR X (compareOp .Gt) (fun x y H Q => (rI0 (fun i j => .bl (decide (j < i))) x y H Q ∨ ∃ i j, x = .str i ∧ y = .str j ∧ Q (.bl (strLt j i)) H) ∨ rCmpD X.K (fun x y => PySem.W.dataLt y x) x y H Q) := OpR.or (OpR.or op_gt op_gt_str) (op_cmpD hu (fun A s v u d e as bs r1 r2 al hn hd => PySem.W.rcGt_alike d e A s v u as bs r1 r2 al hn hd) fun _ _ => rfl)
theorem opGe (hu : X.A.units + 64 < cLine) : OpR X (compareOp .GtE) (fun x y H Q => (rI0 (fun i j => .bl (decide (j ≤ i))) x y H Q ∨ ∃ i j, x = .str i ∧ y = .str j ∧ Q (.bl (!strLt i j)) H) ∨ rCmpD X.K (fun x y => !PySem.W.dataLt x y) x y H Q) := OpR.or (OpR.or op_ge op_ge_str) (op_cmpD hu (fun A s v u d e as bs r1 r2 al hn hd => PySem.W.rcGe_alike d e A s v u as bs r1 r2 al hn hd) fun _ _ => rfl)
def scalP : Pv → Pv → Bool
  | .non, .non => true | .non, .int _ => true | .int _, .non => true | .non, .bl _ => true | .bl _, .non => true | .non, .str _ => true | .str _, .non => true
  | .int _, .int _ => true | .bl _, .bl _ => true | .str _, .str _ => true | .int _, .str _ => true | .str _, .int _ => true | .bl _, .str _ => true | .str _, .bl _ => true
  | _, _ => false
def eqS : Pv → Pv → Bool
  | .non, .non => true
  | .int i, .int j => decide (i = j)
  | .bl i, .bl j => decide (i = j)
  | .str i, .str j => decide (i = j)
  | _, _ => false
def okD (p : Pv) : Bool := isD p && SeqAt.shaped (toD p)
def oEq : O2 := fun x y S Q => if scalP x y = true then Q (.bl (eqS x y)) S else (okD (top S x) = true ∧ okD (top S y) = true) ∧ Q (.bl (PyData.eqv (toD (top S x)) (toD (top S y)))) S
def oNe : O2 := fun x y S Q => if scalP x y = true then Q (.bl (!eqS x y)) S else (okD (top S x) = true ∧ okD (top S y) = true) ∧ Q (.bl (!PyData.eqv (toD (top S x)) (toD (top S y)))) S
theorem scal_rep {K : PySem.W.Frag} {H : Hp} {S : Sto} {x y : Pv} {v u : V} (h : scalP x y = true) (rx : RepV K H S x v) (ry : RepV K H S y u) : scal v u = true ∧ decide (v = u) = eqS x y := by
  cases x <;> cases y <;> first
    | (simp [scalP] at h; done)
    | (have e1 : v = _ := rx
       have e2 : u = _ := ry
       subst e1 e2
       constructor
       · rfl
       · simp [eqS])
theorem sim_eq : Sim2 X.K (fun x y H Q => rEq x y H Q ∨ rEqD X.K x y H Q) oEq := by
  refine ⟨fun x y S Q Q' h q => ?_, fun x y S Qp v u H Q rx ry rs h k => ?_⟩
  · unfold oEq at q ⊢
    split
    · rename_i e; rw [if_pos e] at q; exact h _ _ q
    · rename_i e; rw [if_neg e] at q; exact ⟨q.1, h _ _ q.2⟩
  · unfold oEq at h
    split at h
    · rename_i e
      obtain ⟨h1, h2⟩ := scal_rep e rx ry
      exact .inl ⟨h1, by rw [h2]; exact k _ S _ H h rfl rs (Ext.refl S H)⟩
    · obtain ⟨⟨h1, h2⟩, h3⟩ := h
      unfold okD at h1 h2
      rw [Bool.and_eq_true] at h1 h2
      exact .inr ⟨_, _, dp_top rs rx h1.1, dp_top rs ry h2.1, h1.2, h2.2, k _ S _ H h3 rfl rs (Ext.refl S H)⟩
theorem sim_ne : Sim2 X.K (fun x y H Q => rNe x y H Q ∨ rNeD X.K x y H Q) oNe := by
  refine ⟨fun x y S Q Q' h q => ?_, fun x y S Qp v u H Q rx ry rs h k => ?_⟩
  · unfold oNe at q ⊢
    split
    · rename_i e; rw [if_pos e] at q; exact h _ _ q
    · rename_i e; rw [if_neg e] at q; exact ⟨q.1, h _ _ q.2⟩
  · unfold oNe at h
    split at h
    · rename_i e
      obtain ⟨h1, h2⟩ := scal_rep e rx ry
      exact .inl ⟨h1, by rw [h2]; exact k _ S _ H h rfl rs (Ext.refl S H)⟩
    · obtain ⟨⟨h1, h2⟩, h3⟩ := h
      unfold okD at h1 h2
      rw [Bool.and_eq_true] at h1 h2
      exact .inr ⟨_, _, dp_top rs rx h1.1, dp_top rs ry h2.1, h1.2, h2.2, k _ S _ H h3 rfl rs (Ext.refl S H)⟩
theorem opEq (hu : X.A.units + 64 < cLine) : OpR X (compareOp .Eq) (fun x y H Q => rEq x y H Q ∨ rEqD X.K x y H Q) := OpR.or op_eq (op_eqD hu)
theorem opNe (hu : X.A.units + 64 < cLine) : OpR X (compareOp .NotEq) (fun x y H Q => rNe x y H Q ∨ rNeD X.K x y H Q) := OpR.or op_ne (op_neD hu)
def inTxt (x y : Str) : Bool := !(Builtin.Str.occurrences y x 0 y.length 1).isEmpty
def memD (x : Pv) (xs : List Pv) : Bool := (toDs xs).any fun z => PyData.eqv z (toD x)
def oIn (neg : Bool) : O2 := fun x y S Q => match x, y with
  | .str x, .str y => Q (.bl (if neg then !inTxt x y else inTxt x y)) S
  | x, y => match rdL S y with
    | some ys => (okD (top S x) = true ∧ okD (.lst ys) = true) ∧ Q (.bl (if neg then !memD (top S x) ys else memD (top S x) ys)) S
    | none => False
theorem dp_list {K : PySem.W.Frag} {H : Hp} {S : Sto} (rs : RepS K H S) {y : Pv} {u : V} {ys : List Pv} (ry : RepV K H S y u) (e : rdL S y = some ys) (d : isDs ys = true) : Dp K H u (.list (toDs ys)) := by
  obtain ⟨a, vs, rfl, h, r⟩ := rdL_rep rs ry e
  exact .lst h (dps_of ys vs r d)
theorem sim_in : Sim2 X.K (fun x y H Q => (∃ i j, x = .str i ∧ y = .str j ∧ Q (.bl (!(Builtin.Str.occurrences j i 0 j.length 1).isEmpty)) H) ∨ rInD X.K x y H Q) (oIn false) := by
  refine ⟨fun x y S Q Q' h q => ?_, fun x y S Qp v u H Q rx ry rs h k => ?_⟩
  · unfold oIn at q ⊢
    split at q
    · exact h _ _ q
    · split at q
      · exact ⟨q.1, h _ _ q.2⟩
      · exact q.elim
  · unfold oIn at h
    split at h
    · exact .inl ⟨_, _, rx, ry, k _ S _ H h rfl rs (Ext.refl S H)⟩
    · split at h
      · rename_i ys e
        obtain ⟨⟨h1, h2⟩, h3⟩ := h
        unfold okD at h1 h2
        rw [Bool.and_eq_true] at h1 h2
        exact .inr ⟨_, _, dp_top rs rx h1.1, dp_list rs ry e (by simpa [isD] using h2.1), h1.2, by simpa [toD] using h2.2, k _ S _ H h3 rfl rs (Ext.refl S H)⟩
      · exact h.elim
theorem opIn (hu : X.A.units + 65 < cLine) : OpR X (compareOp .In) (fun x y H Q => (∃ i j, x = .str i ∧ y = .str j ∧ Q (.bl (!(Builtin.Str.occurrences j i 0 j.length 1).isEmpty)) H) ∨ rInD X.K x y H Q) := OpR.or op_in_str (op_inD hu)
end
end PL

namespace PL
open PySem PySem.Spec PyProof.Rows L2
section
variable {X : Cx} {S0 : Sto} {H0 : Hp} {a b : Expr} {fa fb : PF} {pos : Pos}

def fChain (o o' : O2) (fa fb fc : PF) : PF := fun ρ S Q => fa ρ S fun x S1 => fb ρ S1 fun y S2 => o x y S2 fun z S3 => match z with
  | .bl k => cnd k (fc ρ S3 fun w S4 => o' y w S4 Q) (Q (.bl false) S3)
  | _ => False
theorem chain_mono {c : Expr} {fc : PF} {o o' : O2} (mo : ∀ x y S Q Q', (∀ p S', Q p S' → Q' p S') → o x y S Q → o x y S Q') (mo' : ∀ x y S Q Q', (∀ p S', Q p S' → Q' p S') → o' x y S Q → o' x y S Q')
    (ha : PV X S0 H0 a fa) (hb : PV X S0 H0 b fb) (hc : PV X S0 H0 c fc) : ∀ ρ S Q Q', (∀ p S', Q p S' → Q' p S') → fChain o o' fa fb fc ρ S Q → fChain o o' fa fb fc ρ S Q' :=
  fun ρ S Q Q' i q => ha.mono _ _ _ _ (fun x S1 q => hb.mono _ _ _ _ (fun y S2 q => mo _ _ _ _ _ (fun z S3 q => by
    cases z with
    | bl k => cases k with
      | true => exact hc.mono _ _ _ _ (fun w S4 q => mo' _ _ _ _ _ i q) q
      | false => exact i _ _ q
    | _ => exact q) q) q) q
theorem lift_chain {c : Expr} {fc : PF} {r r' : R2} {o o' : O2} (s : Sim2 X.K r o) (s' : Sim2 X.K r' o') (ha : PV X S0 H0 a fa) (hb : PV X S0 H0 b fb) (hc : PV X S0 H0 c fc) {σ : L2.St} {H : Hp} {Q : VK}
    (h : lift X.K S0 H0 (fChain o o' fa fb fc) σ H Q) : tChain r r' (lift X.K S0 H0 fa) (lift X.K S0 H0 fb) (lift X.K S0 H0 fc) σ H Q := by
  obtain ⟨ρ, S, re, rs, ex, q⟩ := h
  refine ⟨ρ, S, re, rs, ex, ha.mono _ _ _ _ (fun p S1 q v H1 rv rs1 ex1 => ?_) q⟩
  refine ⟨ρ, S1, re.ext rs ex1, rs1, ex.trans ex1, hb.mono _ _ _ _ (fun p' S2 q u H2 ru rs2 ex2 => ?_) q⟩
  refine s.run p p' S2 _ v u H2 _ (RepV.ext rs1 ex2 p v rv) ru rs2 q fun z S3 zv H3 q rz rs3 ex3 => ?_
  have e3 := (ex1.trans ex2).trans ex3
  cases z with
  | bl k =>
    refine ⟨k, rz, ?_⟩
    cases k with
    | true =>
      refine ⟨ρ, S3, re.ext rs e3, rs3, ex.trans e3, hc.mono _ _ _ _ (fun w S4 q wv H4 rw' rs4 ex4 => ?_) q⟩
      exact s'.run p' w S4 _ u wv H4 Q (RepV.ext rs2 (ex3.trans ex4) p' u ru) rw' rs4 q fun p5 S5 z5 H5 q r5 rs5 ex5 => q z5 H5 r5 rs5 ((e3.trans ex4).trans ex5)
    | false => exact q (.bl false) H3 rfl rs3 e3
  | _ => exact q.elim
theorem pv_chain {c : Expr} {fc : PF} {op op' : CmpOp} {r r' : R2} {o o' : O2} (ho : OpR X (compareOp op) r) (s : Sim2 X.K r o) (ho' : OpR X (compareOp op') r') (s' : Sim2 X.K r' o') (ha : PV X S0 H0 a fa) (hb : PV X S0 H0 b fb) (hc : PV X S0 H0 c fc)
    (hm : lastMarks [op, op'] [b, c] = false := by with_unfolding_all rfl) : PV X S0 H0 (.Compare a [op, op'] [b, c] pos) (fChain o o' fa fb fc) :=
  ⟨chain_mono s.mono s'.mono ha hb hc, PE.imp (pe_chain ho ho' ha.pe hb.pe hc.pe hm) fun _ _ _ h => lift_chain s s' ha hb hc h⟩
theorem pb_chain {c : Expr} {fc : PF} {op op' : CmpOp} {r r' : R2} {o o' : O2} (ho : OpR X (compareOp op) r) (s : Sim2 X.K r o) (ho' : OpR X (compareOp op') r') (s' : Sim2 X.K r' o') (ha : PV X S0 H0 a fa) (hb : PV X S0 H0 b fb) (hc : PV X S0 H0 c fc)
    (hm : lastMarks [op, op'] [b, c] = false := by with_unfolding_all rfl) : PB X S0 H0 (.Compare a [op, op'] [b, c] pos) (fBV (fChain o o' fa fb fc)) := by
  have h := pv_chain (pos := pos) ho s ho' s' ha hb hc hm
  refine ⟨fBV_mono h, PT.imp (pt_chain ho ho' ha.pe hb.pe hc.pe hm) fun σ H Q q => ?_⟩
  refine lift_chain s s' ha hb hc ?_
  obtain ⟨ρ, S, re, rs, ex, q⟩ := q
  refine ⟨ρ, S, re, rs, ex, h.mono _ _ _ _ (fun p S1 q v H1 rv rs1 ex1 => ?_) q⟩
  cases p with
  | bl b => exact ⟨b, rv, q H1 rs1 ex1⟩
  | _ => exact q.elim

def oIx : O2 := fun x y S Q => match x, y with
  | .str z, .int i => z.length ≤ sizeLine ∧ (match atI z.cps.toList i with | some c => Q (.str ⟨#[c]⟩) S | none => False)
  | .tup xs, .int i => (match atI xs i with | some p => Q p S | none => False)
  | x, .int i => (match rdL S x with
    | some xs => (match atI xs i with | some p => Q p S | none => False)
    | none => False)
  | _, _ => False
theorem atI_rep {K : PySem.W.Frag} {H : Hp} {S : Sto} {xs : List Pv} {vs : List V} {i : Int} {p : Pv} (r : RepVs K H S xs vs) (h : atI xs i = some p) : ∃ v, atI vs i = some v ∧ RepV K H S p v := by
  unfold atI at h ⊢
  rw [r.len]
  cases e : ixN xs.length i with
  | none => rw [e] at h; cases h
  | some j =>
    rw [e] at h
    exact r.get h
theorem pv_ix (ha : PV X S0 H0 a fa) (hb : PV X S0 H0 b fb) (hs : PlainIx b := by exact fun _ _ => rfl) : PV X S0 H0 (.Subscript a b pos) (f2 oIx fa fb) := by
  have s : Sim2 X.K (rIx X.K) oIx := by
    refine ⟨fun x y S Q Q' h q => ?_, fun x y S Qp v u H Q rx ry rs h k => ?_⟩
    · unfold oIx at q ⊢
      split at q
      · refine ⟨q.1, ?_⟩
        have q := q.2
        split at q <;> first | exact h _ _ q | exact q.elim
      · split at q <;> first | exact h _ _ q | exact q.elim
      · split at q
        · rename_i e
          split at q <;> first | exact h _ _ q | exact q.elim
        · exact q.elim
      · exact q.elim
    · unfold oIx at h
      split at h
      · rename_i z i
        obtain ⟨hz, h⟩ := h
        split at h
        · rename_i c e
          exact .inr (.inr ⟨z, i, c, rx, ry, hz, e, k _ S _ H h rfl rs (Ext.refl S H)⟩)
        · exact h.elim
      · split at h
        · rename_i p e
          obtain ⟨q, vs, e1, hq, r⟩ := rx
          obtain ⟨v', e2, r2⟩ := atI_rep r e
          exact .inr (.inl ⟨q, vs, _, v', e1, ry, hq, e2, k _ S _ H h r2 rs (Ext.refl S H)⟩)
        · exact h.elim
      · split at h
        · rename_i xs e0
          split at h
          · rename_i p e
            obtain ⟨q, vs, e1, hq, r⟩ := rdL_rep rs rx e0
            obtain ⟨v', e2, r2⟩ := atI_rep r e
            exact .inl ⟨q, vs, _, v', e1, ry, hq, e2, k _ S _ H h r2 rs (Ext.refl S H)⟩
          · exact h.elim
        · exact h.elim
      · exact h.elim
  exact ⟨f2_mono s.mono ha hb, PE.imp (pe_ix ix_seq ha.pe hb.pe hs) fun _ _ _ h => lift2 s ha hb h⟩

abbrev PFO := Env' → Sto → (Option Int → Sto → Prop) → Prop
def fNoPart : PFO := fun _ S Q => Q none S
def fPart (f : PF) : PFO := fun ρ S Q => f ρ S fun p S1 => match p with | .int i => Q (some i) S1 | _ => False
structure PVo (X : Cx) (S0 : Sto) (H0 : Hp) (e : Option Expr) (f : PFO) : Prop where
  mono : ∀ ρ S Q Q', (∀ p S', Q p S' → Q' p S') → f ρ S Q → f ρ S Q'
  po : PO X e fun σ H Q => ∃ ρ S, RepE X.K H S σ ρ ∧ RepS X.K H S ∧ Ext S0 H0 S H ∧ f ρ S fun o S' => ∀ H', RepS X.K H' S' → Ext S H S' H' → Q o H'
theorem pvo_none : PVo X S0 H0 none fNoPart := ⟨fun _ _ _ _ h q => h _ _ q, ⟨fun pins s σ H Q I ⟨ρ, S, _, rs, _, q⟩ => po_none.run pins s σ H Q I (q H rs (Ext.refl S H))⟩⟩
theorem pvo_some (h : PV X S0 H0 a fa) : PVo X S0 H0 (some a) (fPart fa) := by
  refine ⟨fun ρ S Q Q' i q => h.mono _ _ _ _ (fun p S1 q => by cases p <;> first | exact i _ _ q | exact q) q, ⟨fun pins s σ H Q I ⟨ρ, S, re, rs, ex, q⟩ => (po_some h.pe).run pins s σ H Q I ?_⟩⟩
  refine ⟨ρ, S, re, rs, ex, h.mono _ _ _ _ (fun p S1 q v H1 rv rs1 ex1 => ?_) q⟩
  cases p with
  | int i => exact ⟨i, rv, q H1 rs1 ex1⟩
  | _ => exact q.elim
def cutP (xs : List Pv) (lo hi : Option Int) : List Pv := (xs.drop (HT.sIx xs.length 0 lo)).take (HT.sIx xs.length xs.length hi - HT.sIx xs.length 0 lo)
def oSl (x : Pv) (lo hi : Option Int) (S : Sto) (Q : QV) : Prop := match x with
  | .str z => z.length ≤ sizeLine ∧ Q (.str (cutS z lo hi)) S
  | .tup xs => Q (.tup (cutP xs lo hi)) S
  | x => match rdL S x with
    | some xs => Q (.lst (cutP xs lo hi)) S
    | none => False
def fSl (fa : PF) (fl fh : PFO) : PF := fun ρ S Q => fa ρ S fun x S1 => fl ρ S1 fun l S2 => fh ρ S2 fun h S3 => oSl x l h S3 Q
theorem cut_rep {K : PySem.W.Frag} {H : Hp} {S : Sto} {xs : List Pv} {vs : List V} (r : RepVs K H S xs vs) (lo hi : Option Int) : RepVs K H S (cutP xs lo hi) (cutV vs lo hi) := by
  unfold cutP cutV
  rw [r.len]
  exact (r.drop _).take _
theorem cutP_all {xs : List Pv} {lo hi : Option Int} (h1 : HT.sIx xs.length 0 lo = 0) (h2 : HT.sIx xs.length xs.length hi = xs.length) : cutP xs lo hi = xs := by
  unfold cutP
  rw [h1, h2, List.drop_zero, Nat.sub_zero, List.take_length]
theorem oSl_mono {x : Pv} {lo hi : Option Int} {S : Sto} {Q Q' : QV} (i : ∀ p S', Q p S' → Q' p S') (q : oSl x lo hi S Q) : oSl x lo hi S Q' := by
  unfold oSl at q ⊢
  split at q
  · exact ⟨q.1, i _ _ q.2⟩
  · exact i _ _ q
  · split at q
    · exact i _ _ q
    · exact q.elim
theorem pv_slice {lo hi : Option Expr} {fl fh : PFO} {p2 : Pos} (ha : PV X S0 H0 a fa) (hl : PVo X S0 H0 lo fl) (hh : PVo X S0 H0 hi fh) : PV X S0 H0 (.Subscript a (.Slice lo hi none p2) pos) (fSl fa fl fh) := by
  refine ⟨fun ρ S Q Q' i q => ha.mono _ _ _ _ (fun x S1 q => hl.mono _ _ _ _ (fun l S2 q => hh.mono _ _ _ _ (fun h S3 q => oSl_mono i q) q) q) q, PE.imp (pe_slice (SlR.or sl_str (SlR.or sl_tupA sl_list)) ha.pe hl.po hh.po) fun σ H Q ⟨ρ, S, re, rs, ex, q⟩ => ?_⟩
  refine ⟨ρ, S, re, rs, ex, ha.mono _ _ _ _ (fun x S1 q v H1 rv rs1 ex1 => ?_) q⟩
  refine ⟨ρ, S1, re.ext rs ex1, rs1, ex.trans ex1, hl.mono _ _ _ _ (fun l S2 q H2 rs2 ex2 => ?_) q⟩
  have e2 := ex1.trans ex2
  refine ⟨ρ, S2, re.ext rs e2, rs2, ex.trans e2, hh.mono _ _ _ _ (fun h S3 q H3 rs3 ex3 => ?_) q⟩
  have e3 := e2.trans ex3
  have rv3 := RepV.ext rs1 (ex2.trans ex3) x v rv
  unfold oSl at q
  split at q
  · exact .inl ⟨_, rv3, q.1, q.2 _ H3 rfl rs3 e3⟩
  · rename_i xs
    have rv4 := rv3
    obtain ⟨t, vs, e, hq, r⟩ := rv3
    refine .inr (.inl ⟨t, vs, e, hq, fun z => ?_, fun _ p np => ?_⟩)
    · rw [r.len] at z
      rw [cutP_all z.1 z.2] at q
      exact q _ H3 (e ▸ rv4) rs3 e3
    · obtain ⟨a1, a2, a3⟩ := newT_k rs3 np (cut_rep r l h)
      exact q _ _ a1 a2 (e3.trans a3)
  · split at q
    · rename_i xs e0
      obtain ⟨t, vs, e, hq, r⟩ := rdL_rep rs3 rv3 e0
      refine .inr (.inr ⟨t, vs, e, hq, fun p np => ?_⟩)
      obtain ⟨a1, a2, a3⟩ := newL_k rs3 np (cut_rep r l h)
      exact q _ _ a1 a2 (e3.trans a3)
    · exact q.elim

def lenP (S : Sto) : Pv → Option Nat
  | .str z => if z.length ≤ sizeLine then some z.length else none
  | .tup xs => some xs.length
  | x => (rdL S x).map (·.length)
def oLen : On := fun ps S Q => match ps with
  | [x] => (match lenP S x with | some n => Q (.int n) S | none => False)
  | _ => False
theorem sim_len : SimN X.K (fun xs H Q => (∃ z, xs = [.str z] ∧ z.length ≤ sizeLine ∧ Q (.int z.length) H) ∨ (∃ p ys, xs = [.ref p] ∧ (SqL X.K H p ys ∨ SqT X.K H p ys) ∧ Q (.int ys.length) H)) oLen := by
  refine ⟨fun x S Q Q' h q => ?_, fun x S Qp v H Q rx rs h k => ?_⟩
  · unfold oLen at q ⊢
    split at q
    · split at q <;> first | exact h _ _ q | exact q.elim
    · exact q.elim
  · unfold oLen at h
    split at h
    · rename_i y
      obtain ⟨v1, rfl, r1⟩ := rx.one
      split at h
      · rename_i n e
        cases y with
        | str z =>
          simp only [lenP] at e
          split at e
          · rename_i hz
            cases e
            exact .inl ⟨z, by rw [show v1 = .str z from r1], hz, k _ S _ H h rfl rs (Ext.refl S H)⟩
          · cases e
        | tup xs =>
          simp only [lenP, Option.some.injEq] at e
          obtain ⟨t, vs, e1, hq, r⟩ := r1
          exact .inr ⟨t, vs, by rw [e1], .inr hq, by rw [r.len, e]; exact k _ S _ H h rfl rs (Ext.refl S H)⟩
        | lst xs =>
          obtain ⟨t, vs, e1, hq, r⟩ := rdL_rep (xs := xs) rs r1 rfl
          have e : xs.length = n := by simpa [lenP, rdL] using e
          exact .inr ⟨t, vs, by rw [e1], .inl hq, by rw [r.len, e]; exact k _ S _ H h rfl rs (Ext.refl S H)⟩
        | scr xs =>
          obtain ⟨t, vs, e1, hq, r⟩ := rdL_rep (xs := xs) rs r1 rfl
          have e : xs.length = n := by simpa [lenP, rdL] using e
          exact .inr ⟨t, vs, by rw [e1], .inl hq, by rw [r.len, e]; exact k _ S _ H h rfl rs (Ext.refl S H)⟩
        | ref b =>
          simp only [lenP, Option.map_eq_some_iff] at e
          obtain ⟨xs, e0, e⟩ := e
          obtain ⟨t, vs, e1, hq, r⟩ := rdL_rep rs r1 e0
          exact .inr ⟨t, vs, by rw [e1], .inl hq, by rw [r.len, e]; exact k _ S _ H h rfl rs (Ext.refl S H)⟩
        | _ => simp [lenP, rdL] at e
      · exact h.elim
    · exact h.elim
variable {e : Expr} {es : List Expr} {fs : PFs} {p : Pos}
theorem pv_len (hm : X.mg "len" = none) (ha : PVs X S0 H0 [a] fs) (hg : Gl X "len" := by rfl) (he : starEach (a :: []) X.env = (false, eval a X.env) :: starEach [] X.env := by rfl) (hpl : (backTo pos (starEach [] X.env)).any (·.1) = false := by rfl) : PV X S0 H0 (.Call (.Name "len" p) [a] [] pos) (fN oLen fs) :=
  pv_callB (CallR.or call_len_str call_len_seq) sim_len hg hm PySem.boot_len ha (by decide) (by decide) he hpl
def oMax : On := fun ps S Q => match ps with
  | [.int i, .int j] => Q (.int (if j > i then j else i)) S
  | _ => False
def oMin : On := fun ps S Q => match ps with
  | [.int i, .int j] => Q (.int (if j < i then j else i)) S
  | _ => False
theorem pv_max (hc : X.calm = true) (hm : X.mg "max" = none) (ha : PVs X S0 H0 [a, b] fs) (hg : Gl X "max" := by rfl) (he : starEach (a :: [b]) X.env = (false, eval a X.env) :: starEach [b] X.env := by rfl) (hpl : (backTo pos (starEach [b] X.env)).any (·.1) = false := by rfl) : PV X S0 H0 (.Call (.Name "max" p) [a, b] [] pos) (fN oMax fs) := by
  refine pv_callB (call_max2 hc) ⟨fun x S Q Q' h q => ?_, fun x S Qp v H Q rx rs h k => ?_⟩ hg hm (by decide +kernel) ha (by decide) (by decide) he hpl
  · unfold oMax at q ⊢
    split at q <;> first | exact h _ _ q | exact q.elim
  · unfold oMax at h
    split at h
    · obtain ⟨v1, v2, rfl, r1, r2⟩ := rx.two
      exact ⟨_, _, by rw [show v1 = _ from r1, show v2 = _ from r2], k _ S _ H h rfl rs (Ext.refl S H)⟩
    · exact h.elim
theorem pv_min (hc : X.calm = true) (hm : X.mg "min" = none) (ha : PVs X S0 H0 [a, b] fs) (hg : Gl X "min" := by rfl) (he : starEach (a :: [b]) X.env = (false, eval a X.env) :: starEach [b] X.env := by rfl) (hpl : (backTo pos (starEach [b] X.env)).any (·.1) = false := by rfl) : PV X S0 H0 (.Call (.Name "min" p) [a, b] [] pos) (fN oMin fs) := by
  refine pv_callB (call_min2 hc) ⟨fun x S Q Q' h q => ?_, fun x S Qp v H Q rx rs h k => ?_⟩ hg hm (by decide +kernel) ha (by decide) (by decide) he hpl
  · unfold oMin at q ⊢
    split at q <;> first | exact h _ _ q | exact q.elim
  · unfold oMin at h
    split at h
    · obtain ⟨v1, v2, rfl, r1, r2⟩ := rx.two
      exact ⟨_, _, by rw [show v1 = _ from r1, show v2 = _ from r2], k _ S _ H h rfl rs (Ext.refl S H)⟩
    · exact h.elim
def oInt : On := fun ps S Q => match ps with
  | [.int i] => Q (.int i) S
  | [.bl c] => Q (.int (if c then 1 else 0)) S
  | _ => False
theorem pv_intOf (hm : X.mg "int" = none) (ha : PVs X S0 H0 [a] fs) (hg : Gl X "int" := by rfl) (he : starEach (a :: []) X.env = (false, eval a X.env) :: starEach [] X.env := by rfl) (hpl : (backTo pos (starEach [] X.env)).any (·.1) = false := by rfl) : PV X S0 H0 (.Call (.Name "int" p) [a] [] pos) (fN oInt fs) := by
  refine pv_callTy call_int1 ⟨fun x S Q Q' h q => ?_, fun x S Qp v H Q rx rs h k => ?_⟩ hg hm (by decide +kernel) ha (by decide) (by decide) he hpl
  · unfold oInt at q ⊢
    split at q <;> first | exact h _ _ q | exact q.elim
  · unfold oInt at h
    split at h
    · obtain ⟨v1, rfl, r1⟩ := rx.one
      exact .inl ⟨_, by rw [show v1 = _ from r1], k _ S _ H h rfl rs (Ext.refl S H)⟩
    · obtain ⟨v1, rfl, r1⟩ := rx.one
      exact .inr ⟨_, by rw [show v1 = _ from r1], k _ S _ H h rfl rs (Ext.refl S H)⟩
    · exact h.elim
def oTuple : On := fun ps S Q => match ps with
  | [.tup xs] => Q (.tup xs) S
  | [x] => (match rdL S x with | some xs => Q (.tup xs) S | none => False)
  | _ => False
theorem pv_tupleOf (hm : X.mg "tuple" = none) (ha : PVs X S0 H0 [a] fs) (hg : Gl X "tuple" := by rfl) (he : starEach (a :: []) X.env = (false, eval a X.env) :: starEach [] X.env := by rfl) (hpl : (backTo pos (starEach [] X.env)).any (·.1) = false := by rfl) : PV X S0 H0 (.Call (.Name "tuple" p) [a] [] pos) (fN oTuple fs) := by
  refine pv_callTy call_tuple_of ⟨fun x S Q Q' h q => ?_, fun x S Qp v H Q rx rs h k => ?_⟩ hg hm (by decide +kernel) ha (by decide) (by decide) he hpl
  · unfold oTuple at q ⊢
    split at q
    · exact h _ _ q
    · split at q <;> first | exact h _ _ q | exact q.elim
    · exact q.elim
  · unfold oTuple at h
    split at h
    · obtain ⟨v1, rfl, r1⟩ := rx.one
      have r2 := r1
      obtain ⟨t, vs, e1, hq, r⟩ := r1
      exact ⟨t, vs, by rw [e1], .inr ⟨hq, k _ S _ H h (e1 ▸ r2) rs (Ext.refl S H)⟩⟩
    · obtain ⟨v1, rfl, r1⟩ := rx.one
      split at h
      · rename_i e0
        obtain ⟨t, vs, e1, hq, r⟩ := rdL_rep rs r1 e0
        refine ⟨t, vs, by rw [e1], .inl ⟨hq, fun q nq => ?_⟩⟩
        obtain ⟨a1, a2, a3⟩ := newT_k rs nq r
        exact k _ S _ _ h a1 a2 a3
      · exact h.elim
    · exact h.elim
def seqP (S : Sto) : Pv → Option (List Pv)
  | .tup xs => some xs
  | x => rdL S x
theorem seq_rep {K : PySem.W.Frag} {H : Hp} {S : Sto} (rs : RepS K H S) {x : Pv} {v : V} {xs : List Pv} (h : RepV K H S x v) (e : seqP S x = some xs) : ∃ a vs, v = .ref a ∧ (SqL K H a vs ∨ SqT K H a vs) ∧ RepVs K H S xs vs := by
  cases x with
  | tup ys =>
    have e' : ys = xs := by simpa [seqP] using e
    subst e'
    obtain ⟨t, vs, e1, hq, r⟩ := h
    exact ⟨t, vs, e1, .inr hq, r⟩
  | _ =>
    obtain ⟨t, vs, e1, hq, r⟩ := rdL_rep rs h (by simpa [seqP] using e)
    exact ⟨t, vs, e1, .inl hq, r⟩
def allBl : List Pv → Option (List Bool)
  | [] => some []
  | .bl b :: ps => (allBl ps).map (b :: ·)
  | _ => none
theorem allBl_rep {K : PySem.W.Frag} {H : Hp} {S : Sto} : ∀ {ps : List Pv} {vs : List V} {bs : List Bool}, RepVs K H S ps vs → allBl ps = some bs → vs = bs.map V.bl
  | [], vs, bs, r, e => by
    have e1 : vs = [] := r
    have e2 : [] = bs := by simpa [allBl] using e
    rw [e1, ← e2]; rfl
  | .bl b :: ps, vs, bs, ⟨v, q, e1, r1, r2⟩, e => by
    simp only [allBl, Option.map_eq_some_iff] at e
    obtain ⟨cs, e2, e3⟩ := e
    rw [e1, ← e3, show v = .bl b from r1, allBl_rep r2 e2]; rfl
  | .non :: ps, _, _, _, e => by simp [allBl] at e
  | .int _ :: ps, _, _, _, e => by simp [allBl] at e
  | .str _ :: ps, _, _, _, e => by simp [allBl] at e
  | .tup _ :: ps, _, _, _, e => by simp [allBl] at e
  | .lst _ :: ps, _, _, _, e => by simp [allBl] at e
  | .scr _ :: ps, _, _, _, e => by simp [allBl] at e
  | .tpx _ :: ps, _, _, _, e => by simp [allBl] at e
  | .dct _ _ :: ps, _, _, _, e => by simp [allBl] at e
  | .ref _ :: ps, _, _, _, e => by simp [allBl] at e
  | .ty _ :: ps, _, _, _, e => by simp [allBl] at e
def oAll : On := fun ps S Q => match ps with
  | [x] => (match (rdL S x).bind allBl with | some bs => Q (.bl (bs.all id)) S | none => False)
  | _ => False
def oAny : On := fun ps S Q => match ps with
  | [x] => (match (rdL S x).bind allBl with | some bs => Q (.bl (bs.any id)) S | none => False)
  | _ => False
theorem pv_all (hc : X.calm = true) (hm : X.mg "all" = none) (ha : PVs X S0 H0 [a] fs) (hg : Gl X "all" := by rfl) (he : starEach (a :: []) X.env = (false, eval a X.env) :: starEach [] X.env := by rfl) (hpl : (backTo pos (starEach [] X.env)).any (·.1) = false := by rfl) : PV X S0 H0 (.Call (.Name "all" p) [a] [] pos) (fN oAll fs) := by
  refine pv_callB (cr_all hc) ⟨fun x S Q Q' h q => ?_, fun x S Qp v H Q rx rs h k => ?_⟩ hg hm (by decide +kernel) ha (by decide) (by decide) he hpl
  · unfold oAll at q ⊢
    split at q
    · split at q <;> first | exact h _ _ q | exact q.elim
    · exact q.elim
  · unfold oAll at h
    split at h
    · obtain ⟨v1, rfl, r1⟩ := rx.one
      split at h
      · rename_i bs e
        rw [Option.bind_eq_some_iff] at e
        obtain ⟨xs, e0, e⟩ := e
        obtain ⟨t, vs, e1, hq, r⟩ := rdL_rep rs r1 e0
        rw [allBl_rep r e] at hq
        exact ⟨t, bs, by rw [e1], hq, k _ S _ H h rfl rs (Ext.refl S H)⟩
      · exact h.elim
    · exact h.elim
theorem pv_any (hc : X.calm = true) (hm : X.mg "any" = none) (ha : PVs X S0 H0 [a] fs) (hg : Gl X "any" := by rfl) (he : starEach (a :: []) X.env = (false, eval a X.env) :: starEach [] X.env := by rfl) (hpl : (backTo pos (starEach [] X.env)).any (·.1) = false := by rfl) : PV X S0 H0 (.Call (.Name "any" p) [a] [] pos) (fN oAny fs) := by
  refine pv_callB (cr_any hc) ⟨fun x S Q Q' h q => ?_, fun x S Qp v H Q rx rs h k => ?_⟩ hg hm (by decide +kernel) ha (by decide) (by decide) he hpl
  · unfold oAny at q ⊢
    split at q
    · split at q <;> first | exact h _ _ q | exact q.elim
    · exact q.elim
  · unfold oAny at h
    split at h
    · obtain ⟨v1, rfl, r1⟩ := rx.one
      split at h
      · rename_i bs e
        rw [Option.bind_eq_some_iff] at e
        obtain ⟨xs, e0, e⟩ := e
        obtain ⟨t, vs, e1, hq, r⟩ := rdL_rep rs r1 e0
        rw [allBl_rep r e] at hq
        exact ⟨t, bs, by rw [e1], hq, k _ S _ H h rfl rs (Ext.refl S H)⟩
      · exact h.elim
    · exact h.elim
mutual
def isE : Pv → Bool
  | .non => true | .bl _ => true | .int _ => true | .str _ => true | .tup xs => isEs xs | .dct ks vs => ks.isEmpty && vs.isEmpty | .lst _ => false | .scr _ => false | .tpx _ => false | .ref _ => false | .ty _ => false
def isEs : List Pv → Bool
  | [] => true
  | p :: ps => isE p && isEs ps
end
mutual
inductive DpE (K : PySem.W.Frag) (H : Hp) : V → PyData → Prop
  | non : DpE K H .non .none
  | bl (b : Bool) : DpE K H (.bl b) (.bool b)
  | int (i : Int) : DpE K H (.int i) (.int i)
  | str (x : Str) : DpE K H (.str x) (.str x)
  | dic {a : Addr} : Rd H a (.dK []) → DpE K H (.ref a) (.dict [])
  | tup {a : Addr} {xs : List V} {ds : List PyData} : SqT K H a xs → DpEs K H xs ds → DpE K H (.ref a) (.tuple ds)
inductive DpEs (K : PySem.W.Frag) (H : Hp) : List V → List PyData → Prop
  | nil : DpEs K H [] []
  | cons {v : V} {vs : List V} {d : PyData} {ds : List PyData} : DpE K H v d → DpEs K H vs ds → DpEs K H (v :: vs) (d :: ds)
end
section
variable {pins : List (Addr × Obj)} {σ : L2.St} {H : Hp} {s : Shared} {S : Sto}
mutual
theorem dpe_of : ∀ (p : Pv) (v : V), RepV X.K H S p v → isE p = true → DpE X.K H v (toD p)
  | .non, v, h, _ => by have e : v = _ := h; subst e; exact .non
  | .bl b, v, h, _ => by have e : v = _ := h; subst e; exact .bl b
  | .int b, v, h, _ => by have e : v = _ := h; subst e; exact .int b
  | .str b, v, h, _ => by have e : v = _ := h; subst e; exact .str b
  | .tup ps, _, ⟨a, vs, e, h, r⟩, d => by subst e; exact .tup h (dpes_of ps vs r d)
  | .dct ks ps, _, ⟨a, kvs, e, h, hs, r1, r2⟩, d => by
    subst e
    have d' : ks.isEmpty = true ∧ ps.isEmpty = true := by simpa [isE] using d
    have e1 : kvs = [] := by
      have := r1.len
      rw [List.isEmpty_iff.mp d'.1] at this
      exact List.length_eq_zero_iff.mp (by simpa using this)
    subst e1
    exact .dic h
  | .lst _, _, _, d => by cases d
  | .scr _, _, _, d => by cases d
  | .tpx _, _, _, d => by cases d
  | .ref _, _, _, d => by cases d
  | .ty _, _, _, d => by cases d
theorem dpes_of : ∀ (ps : List Pv) (vs : List V), RepVs X.K H S ps vs → isEs ps = true → DpEs X.K H vs (toDs ps)
  | [], _, h, _ => by have e : _ = [] := h; subst e; exact .nil
  | p :: ps, _, ⟨v, r, e, h1, h2⟩, d => by
    subst e
    have d' : isE p = true ∧ isEs ps = true := by simpa [isEs] using d
    exact .cons (dpe_of p v h1 d'.1) (dpes_of ps r h2 d'.2)
end
mutual
theorem DpE.reads (I : Inv X pins σ H s) : ∀ (d : PyData) (v : V) (u : Value), DpE X.K H v d → RelV v u → ∃ as, Reads s.heap u d as ∧ sysModules ∉ as
  | .none, _, _, h, r => by cases h; cases r; exact ⟨_, Reads.none, by simp⟩
  | .bool b, _, _, h, r => by cases h; cases r; exact ⟨_, Reads.bool b, by simp⟩
  | .int i, _, _, h, r => by cases h; obtain ⟨t, rfl⟩ := r; exact ⟨_, Reads.int i t, by simp⟩
  | .str x, _, _, h, r => by cases h; obtain ⟨t, rfl⟩ := r; exact ⟨_, Reads.str x t, by simp⟩
  | .list ds, _, _, h, r => by cases h
  | .tuple ds, _, _, h, r => by
    cases h with
    | tup hs ha =>
      cases r
      obtain ⟨its, rv, ⟨o, ho, hc, n, hd⟩, _⟩ := I.tuple hs
      obtain ⟨as, hr, hn⟩ := DpE.readsAll I ds _ its ha rv
      exact ⟨_, Reads.tuple ho hc hd hr, hn⟩
  | .dict kvs, _, _, h, r => by
    cases h with
    | dic hd =>
      rename_i a
      obtain rfl : _ = Value.ref a := r
      obtain ⟨_, hsm, vs, rel, o, es, ep, ho, hx, hdt, _, hp, _⟩ := dk_rd I.hok hd
      have ev : vs = [] := by cases rel; rfl
      subst ev
      have ee : es.toList = [] := by
        cases hes : es.toList with
        | nil => rfl
        | cons e r => rw [hes] at hp; cases hp
      refine ⟨_, Reads.dict (kvs := []) ho hx.1 hdt (by rw [ee]; exact .nil) (by rw [ee]; exact .nil), ?_⟩
      intro z
      have : sysModules = a := by simpa using z
      rw [this] at hsm
      simp at hsm
theorem DpE.readsAll (I : Inv X pins σ H s) : ∀ (ds : List PyData) (vs : List V) (us : List Value), DpEs X.K H vs ds → Vals vs us → ∃ as, ReadsAll s.heap us ds as ∧ sysModules ∉ as
  | [], _, _, h, r => by cases h; cases r; exact ⟨_, ReadsAll.nil, by simp⟩
  | d :: ds, _, _, h, r => by
    cases h with
    | cons h1 h2 =>
      cases r with
      | cons r1 r2 =>
        obtain ⟨as, q1, n1⟩ := DpE.reads I d _ _ h1 r1
        obtain ⟨bs, q2, n2⟩ := DpE.readsAll I ds _ _ h2 r2
        exact ⟨_, ReadsAll.cons q1 q2, by rw [List.mem_append]; exact fun z => z.elim n1 n2⟩
end
end
def okR (p : Pv) : Prop := (isD p || isE p) = true ∧ (toD p).showable = true ∧ (toD p).depth ≤ 60 ∧ (toD p).shown.length ≤ sizeLine
def oRepr : On := fun ps S Q => match ps with
  | [x] => okR (top S x) ∧ ∀ z, z = (toD (top S x)).shown → Q (.str z) S
  | _ => False
theorem Dp.nodict {K : PySem.W.Frag} : ∀ p : Pv, isD p = true → (toD p).hasDict = false := by
  intro p
  refine Pv.rec (motive_1 := fun p => isD p = true → (toD p).hasDict = false) (motive_2 := fun ps => isDs ps = true → PyData.hasDictAll (toDs ps) = false) ?_ ?_ ?_ ?_ ?_ ?_ ?_ ?_ ?_ ?_ ?_ ?_ ?_ p <;> intros <;> simp_all [isD, isDs, toD, toDs, PyData.hasDict, PyData.hasDictAll]
def rRepr (K : PySem.W.Frag) : List V → Hp → VK → Prop := fun xs H Q => ∃ x d, xs = [x] ∧ ((Dp K H x d ∧ d.hasDict = false) ∨ DpE K H x d) ∧ d.showable = true ∧ d.depth ≤ 60 ∧ d.shown.length ≤ sizeLine ∧ Q (.str d.shown) H
theorem call_reprD (hg : X.A.guards = some []) (hu : X.A.units + 64 < cLine) : CallR X (.builtin "repr") (rRepr X.K) := by
  intro pins s σ H xs us Q I r h
  obtain ⟨x, d, rfl, hd, h1, h2, h4, q⟩ := h
  obtain ⟨u, rfl, ru⟩ : ∃ u, us = [u] ∧ RelV x u := by
    cases r with
    | cons r rr => cases rr; exact ⟨_, rfl, r⟩
  have main : ∃ as, Reads s.heap u d as ∧ (d.hasDict = true → sysModules ∉ as) := by
    rcases hd with ⟨hd, h3⟩ | hd
    · obtain ⟨as, rd⟩ := Dp.reads I _ _ _ hd ru
      exact ⟨as, rd, fun e => by rw [h3] at e; cases e⟩
    · obtain ⟨as, rd, hn⟩ := DpE.reads I _ _ _ hd ru
      exact ⟨as, rd, fun _ => hn⟩
  obtain ⟨as, rd, hsm⟩ := main
  have fin : ∀ (a : Addr), u = .ref a → wpAny (model X.prog X.w) X.A (call (.builtin "repr") [u]) (EP X pins σ Q) X.xe s := by
    intro a e
    subst e
    exact repr_of_reads' rd h1 hsm hg (by omega) (fun _ _ e => e) (fun h' u tk hk => ⟨.str _, H, I.kept (t' := tk) hk, ⟨u, rfl⟩, q⟩) h4
  cases rd with
  | none => exact PySem.P.repr_of_none ⟨.str _, H, I.tok _, ⟨_, rfl⟩, by simpa [PyData.shown] using q⟩
  | bool b => exact PySem.P.repr_of_bool ⟨.str _, H, I.tok _, ⟨_, rfl⟩, by simpa [PyData.shown] using q⟩
  | int i t => exact PySem.P.repr_of_int (by simpa [PyData.showable] using h1) ⟨.str _, H, I.tok _, ⟨_, rfl⟩, by simpa [PyData.shown] using q⟩
  | str y t => exact PySem.P.repr_of_str ⟨.str _, H, I.tok _, ⟨_, rfl⟩, by simpa [PyData.shown] using q⟩ (by simpa [PyData.shown] using h4)
  | list => exact fin _ rfl
  | tuple => exact fin _ rfl
  | dict => exact fin _ rfl
theorem pv_repr (hg0 : X.A.guards = some []) (hu : X.A.units + 64 < cLine) (hm : X.mg "repr" = none) (ha : PVs X S0 H0 [a] fs) (hg : Gl X "repr" := by rfl) (he : starEach (a :: []) X.env = (false, eval a X.env) :: starEach [] X.env := by rfl) (hpl : (backTo pos (starEach [] X.env)).any (·.1) = false := by rfl) : PV X S0 H0 (.Call (.Name "repr" p) [a] [] pos) (fN oRepr fs) := by
  refine pv_callB (call_reprD hg0 hu) ⟨fun x S Q Q' h q => ?_, fun x S Qp v H Q rx rs h k => ?_⟩ hg hm (by decide +kernel) ha (by decide) (by decide) he hpl
  · unfold oRepr at q ⊢
    split at q
    · exact ⟨q.1, fun z e => h _ _ (q.2 z e)⟩
    · exact q.elim
  · unfold oRepr at h
    split at h
    · rename_i y
      obtain ⟨v1, rfl, r1⟩ := rx.one
      obtain ⟨⟨h1, h2, h3, h4⟩, h⟩ := h
      refine ⟨v1, _, rfl, ?_, h2, h3, h4, k _ S _ H (h _ rfl) rfl rs (Ext.refl S H)⟩
      cases hd : isD (top S y) with
      | true => exact .inl ⟨dp_top rs r1 hd, Dp.nodict (K := X.K) _ hd⟩
      | false =>
        rw [hd, Bool.false_or] at h1
        right
        cases y with
        | ref a =>
          have e1 : v1 = .ref a := r1
          subst e1
          cases hs : S a with
          | none => simp [top, hs, isE] at h1
          | some m =>
            cases m with
            | lst xs => simp [top, hs, isE] at h1
            | tab n => simp [top, hs, isE] at h1
            | exc C => simp [top, hs, isE] at h1
            | lck o kvs => simp [top, hs, isE] at h1
            | ob F ks xs => simp [top, hs, isE] at h1
            | dct ks vs =>
              obtain ⟨kvs, e2, r3, r4⟩ := rs a _ hs
              have h1' : ks = [] ∧ vs = [] := by simpa [top, hs, isE] using h1
              have e3 : kvs = [] := by
                have := r3.len
                rw [h1'.1] at this
                exact List.length_eq_zero_iff.mp (by simpa using this)
              subst e3
              simp only [top, hs, toD]
              exact .dic (.inl e2)
        | _ => exact dpe_of _ _ r1 h1
    · exact h.elim

inductive Tk | non | bl | int | str | tup | lst | dct
def Tk.nm : Tk → String
  | .non => "NoneType" | .bl => "bool" | .int => "int" | .str => "str" | .tup => "tuple" | .lst => "list" | .dct => "dict"
def tyP (S : Sto) : Pv → Option Tk
  | .non => some .non | .bl _ => some .bl | .int _ => some .int | .str _ => some .str | .tup _ => some .tup | .lst _ => some .lst | .scr _ => some .lst | .tpx _ => none | .dct _ _ => some .dct
  | .ref a => match S a with
    | some (.lst _) => some .lst
    | some (.dct _ _) => some .dct
    | _ => none
  | .ty _ => none
def isiT : Tk → Tk → Bool
  | .non, .non => true | .bl, .bl => true | .bl, .int => true | .int, .int => true | .str, .str => true | .tup, .tup => true | .lst, .lst => true | .dct, .dct => true
  | _, _ => false
theorem isiT_ok (t c : Tk) (hc : c = .non → False) : kitB t.nm c.nm = some (isiT t c) := by
  cases t <;> cases c <;> first | exact (hc rfl).elim | decide +kernel
def oIsi (c : Tk) : O1 := fun x S Q => match tyP S x with
  | some t => Q (.bl (isiT t c)) S
  | none => False
theorem tyP_rep {K : PySem.W.Frag} {H : Hp} {S : Sto} (rs : RepS K H S) {x : Pv} {v : V} {t : Tk} (h : RepV K H S x v) (e : tyP S x = some t) : TyX K H v (.type t.nm) := by
  cases x with
  | non => cases e; have e1 : v = _ := h; subst e1; exact .base .non
  | bl b => cases e; have e1 : v = _ := h; subst e1; exact .base (.bl b)
  | int b => cases e; have e1 : v = _ := h; subst e1; exact .base (.int b)
  | str b => cases e; have e1 : v = _ := h; subst e1; exact .base (.str b)
  | tup xs =>
    cases e
    obtain ⟨a, vs, rfl, hq, r⟩ := h
    rcases hq with (hq | ⟨o, hq⟩) | ⟨o, its, n, hk, hc, _⟩
    · exact .base (.tup hq)
    · exact .fTuple hq
    · exact .kTuple hk hc
  | lst xs => cases e; obtain ⟨a, vs, rfl, hq, _, r⟩ := h; exact .base (.lst hq)
  | tpx xs => cases e
  | scr xs =>
    cases e
    obtain ⟨a, vs, rfl, hq, r⟩ := h
    rcases hq with ⟨o, hq⟩ | ((hq | ⟨o, hq⟩) | ⟨o, its, n, hk, hc, _⟩)
    · exact .base (.frz hq)
    · cases hq
    · cases hq
    · exact .kList hk hc
  | dct ks xs =>
    cases e
    obtain ⟨a, kvs, rfl, hq, _⟩ := h
    rcases hq with hq | ⟨o, hq⟩
    · exact .base (.dK hq)
    · exact .fDict hq
  | ref a =>
    have e1 : v = _ := h
    subst e1
    simp only [tyP] at e
    split at e
    · rename_i xs q
      cases e
      obtain ⟨vs, e1, _⟩ := rs a _ q
      exact .base (.lst e1)
    · rename_i xs ys q
      cases e
      obtain ⟨vs, e1, _⟩ := rs a _ q
      exact .base (.dK e1)
    · cases e
  | ty n => cases e
theorem pv_isi (c : Tk) {T : Str} {pt : Pos} (hm : X.mg "isinstance" = none) (hmT : X.mg T = none) (ha : PV X S0 H0 a fa) (hb : bootBuiltins T = some (.type c.nm) := by decide +kernel) (hc : c = .non → False := by exact fun h => nomatch h) (hg : Gl X "isinstance" := by rfl) (hgT : Gl X T := by rfl)
    (hnT : T ≠ "__name__" := by decide) (hdT : (T == ("__debug__" : Str)) = false := by decide)
    (hs1 : starEach [a, .Name T pt] X.env = (false, eval a X.env) :: starEach [.Name T pt] X.env := by rfl) (hs2 : starEach [.Name T pt] X.env = (false, eval (.Name T pt) X.env) :: starEach [] X.env := by rfl)
    (hpl : (backTo pos (starEach [.Name T pt] X.env)).any (·.1) = false := by rfl) : PV X S0 H0 (.Call (.Name "isinstance" p) [a, .Name T pt] [] pos) (f1 (oIsi c) fa) := by
  have s : SimN X.K (rIsi X.K) (fun ps S Q => ∃ x, ps = [x, .ty c.nm] ∧ oIsi c x S Q) := by
    refine ⟨fun x S Q Q' h ⟨y, e, q⟩ => ⟨y, e, ?_⟩, fun x S Qp v H Q rx rs h k => ?_⟩
    · unfold oIsi at q ⊢
      split at q <;> first | exact h _ _ q | exact q.elim
    · obtain ⟨y, rfl, h⟩ := h
      obtain ⟨v1, v2, rfl, r1, r2⟩ := rx.two
      unfold oIsi at h
      split at h
      · rename_i t e
        exact ⟨v1, v2, _, .type c.nm, isiT t c, rfl, by rw [show v2 = _ from r2]; exact .ty _, tyP_rep rs r1 e, kit_ty (isiT_ok t c hc), k _ S _ H h rfl rs (Ext.refl S H)⟩
      · exact h.elim
  have h := pv_callB (pos := pos) (p := p) call_isi s hg hm (by decide +kernel) (pvs_cons ha (pvs_cons (pv_bltn (pos := pt) hgT hmT hb hnT hdT) pvs_nil hs2) hs1) (by decide) (by decide) hs1 hpl
  refine ⟨f1_mono (fun x S Q Q' h q => ?_) ha, PE.imp h.pe fun σ H Q ⟨ρ, S, re, rs, ex, q⟩ => ⟨ρ, S, re, rs, ex, ha.mono _ _ _ _ (fun x S1 q => ⟨x, rfl, q⟩) q⟩⟩
  unfold oIsi at q ⊢
  split at q <;> first | exact h _ _ q | exact q.elim
end
end PL

namespace PL
open PySem PySem.Spec PyProof.Rows L2

inductive Tg where
  | nm (i : Nat)
  | tp (ts : List Tg)
mutual
def tgR (K : PySem.W.Frag) : Tg → TG
  | .nm i => gName i
  | .tp ts => fun v σ H Q => gTup K ts.length (tgRs K ts) v σ H Q ∨ gUnl K ts.length (tgRs K ts) v σ H Q
def tgRs (K : PySem.W.Frag) : List Tg → TGs
  | [] => gNil
  | t :: ts => gCons (tgR K t) (tgRs K ts)
end
mutual
def bindT (S : Sto) : Tg → Pv → Env' → Option Env'
  | .nm i, p, ρ => some (ρ.set i (some p))
  | .tp ts, p, ρ => (seqP S p).bind fun xs => if xs.length = ts.length then bindTs S ts xs ρ else none
def bindTs (S : Sto) : List Tg → List Pv → Env' → Option Env'
  | [], _, ρ => some ρ
  | t :: ts, [], _ => none
  | t :: ts, x :: xs, ρ => (bindT S t x ρ).bind fun ρ' => bindTs S ts xs ρ'
end
mutual
def slotsT : Tg → List Nat
  | .nm i => [i]
  | .tp ts => slotsTs ts
def slotsTs : List Tg → List Nat
  | [] => []
  | t :: ts => slotsT t ++ slotsTs ts
end
theorem wipe_set {σ : L2.St} {i : Nat} {x : Option V} : ∀ {vs : List Nat}, i ∈ vs → wipe (σ.set i x) vs = wipe σ vs
  | [], h => by simp at h
  | v :: vs, h => by
    show (wipe (σ.set i x) vs).set v none = (wipe σ vs).set v none
    by_cases hv : i ∈ vs
    · rw [wipe_set hv]
    · have e : i = v := by
        rcases List.mem_cons.mp h with e | e
        · exact e
        · exact absurd e hv
      subst e
      have q : ∀ (us : List Nat), i ∉ us → wipe (σ.set i x) us = (wipe σ us).set i x := by
        intro us
        induction us with
        | nil => intro _; rfl
        | cons u us ih =>
          intro hu
          have h1 : i ≠ u := fun e => hu (by rw [e]; exact List.mem_cons_self)
          have h2 : i ∉ us := fun e => hu (List.mem_cons_of_mem _ e)
          show (wipe (σ.set i x) us).set u none = ((wipe σ us).set u none).set i x
          rw [ih h2, List.set_comm _ _ h1]
      rw [q vs hv, List.set_set]
section
variable {K : PySem.W.Frag} {H : Hp} {S : Sto}
mutual
theorem tg_run (rs : RepS K H S) : ∀ (t : Tg) (p : Pv) (v : V) (σ : L2.St) (ρ ρ' : Env') (Q : L2.St → Hp → Prop), RepV K H S p v → RepE K H S σ ρ → bindT S t p ρ = some ρ' →
    (∀ σ', RepE K H S σ' ρ' → (∀ vs : List Nat, (∀ i ∈ slotsT t, i ∈ vs) → wipe σ' vs = wipe σ vs) → Q σ' H) → tgR K t v σ H Q
  | .nm i, p, v, σ, ρ, ρ', Q, rv, re, e, k => by
    have e' : ρ.set i (some p) = ρ' := by simpa [bindT] using e
    subst e'
    exact k _ (re.set i rv) fun vs h => wipe_set (h i (by simp [slotsT]))
  | .tp ts, p, v, σ, ρ, ρ', Q, rv, re, e, k => by
    simp only [bindT, Option.bind_eq_some_iff] at e
    obtain ⟨xs, e0, e⟩ := e
    split at e
    · rename_i hl
      obtain ⟨a, vs, e1, hq, r⟩ := seq_rep rs rv e0
      have hr := tgs_run rs ts xs vs σ ρ ρ' Q hl r re e fun σ' r' w => k σ' r' fun us h => w us (by simpa [slotsT] using h)
      rcases hq with hq | hq
      · exact .inr ⟨a, vs, e1, hq, by rw [r.len]; exact hl, hr⟩
      · exact .inl ⟨a, vs, e1, hq, by rw [r.len]; exact hl, hr⟩
    · cases e
theorem tgs_run (rs : RepS K H S) : ∀ (ts : List Tg) (xs : List Pv) (vs : List V) (σ : L2.St) (ρ ρ' : Env') (Q : L2.St → Hp → Prop), xs.length = ts.length → RepVs K H S xs vs → RepE K H S σ ρ → bindTs S ts xs ρ = some ρ' →
    (∀ σ', RepE K H S σ' ρ' → (∀ us : List Nat, (∀ i ∈ slotsTs ts, i ∈ us) → wipe σ' us = wipe σ us) → Q σ' H) → tgRs K ts vs σ H Q
  | [], [], vs, σ, ρ, ρ', Q, hl, r, re, e, k => by
    have e' : ρ = ρ' := by simpa [bindTs] using e
    subst e'
    exact ⟨r, k σ re fun _ _ => rfl⟩
  | [], x :: xs, vs, σ, ρ, ρ', Q, hl, r, re, e, k => by simp at hl
  | t :: ts, [], vs, σ, ρ, ρ', Q, hl, r, re, e, k => by simp at hl
  | t :: ts, x :: xs, vs, σ, ρ, ρ', Q, hl, ⟨v, r, e1, h1, h2⟩, re, e, k => by
    simp only [bindTs, Option.bind_eq_some_iff] at e
    obtain ⟨ρ1, e2, e3⟩ := e
    refine ⟨v, r, e1, tg_run rs t x v σ ρ ρ1 _ h1 re e2 fun σ1 r1 w1 => ?_⟩
    exact tgs_run rs ts xs r σ1 ρ1 ρ' Q (by simpa using hl) h2 r1 e3 fun σ2 r2 w2 => k σ2 r2 fun us h => by
      rw [w2 us fun i hi => h i (by simp [slotsTs, hi]), w1 us fun i hi => h i (by simp [slotsTs, hi])]
end
end
section
variable {X : Cx} {S0 : Sto} {H0 : Hp} {a b : Expr} {fa fb : PF} {pos : Pos}
theorem PG.or {tg : Expr} {g g' : TG} (h : PG X tg g) (h' : PG X tg g') : PG X tg (fun v σ H Q => g v σ H Q ∨ g' v σ H Q) := ⟨fun pins s σ H v u Q I r q => q.elim (fun q => h.run pins s σ H v u Q I r q) fun q => h'.run pins s σ H v u Q I r q⟩
theorem pgt_name (i : Nat) {x : Str} (hN : X.N.Nodup) (hi : X.N[i]? = some x := by rfl) (hx : Loc X.env.scope x := by first | exact Or.inl rfl | exact Or.inr rfl) (hf : X.fn x = true ∨ X.env.scope.names.lookup x = some .local := by first | exact .inl rfl | exact .inr rfl | assumption) : PG X (.Name x pos) (tgR X.K (.nm i)) := by
  have e : tgR X.K (.nm i) = gName i := by simp [tgR]
  rw [e]
  exact pg_name hN hi hx hf
theorem pgt_nil : PGs X [] (tgRs X.K []) := by
  have e : tgRs X.K [] = gNil := by simp [tgRs]
  rw [e]
  exact pgs_nil
theorem pgt_cons {e : Expr} {es : List Expr} {t : Tg} {ts : List Tg} (h1 : PG X e (tgR X.K t)) (h2 : PGs X es (tgRs X.K ts)) (hs : (assignEach (e :: es) X.env).map (·.2) = assign e X.env :: (assignEach es X.env).map (·.2) := by rfl) : PGs X (e :: es) (tgRs X.K (t :: ts)) := by
  have q : tgRs X.K (t :: ts) = gCons (tgR X.K t) (tgRs X.K ts) := by simp [tgRs]
  rw [q]
  exact pgs_cons h1 h2 hs
theorem pgt_tup {es : List Expr} {k : Nat} {ts : List Tg} (hc : X.calm = true) (h : PGs X es (tgRs X.K ts)) (hn : (assignEach es X.env).length = ts.length := by rfl) (hst : (assignEach es X.env).findIdx? (·.1) = none := by rfl) : PG X (.Tuple es k pos) (tgR X.K (.tp ts)) := by
  have q : tgR X.K (.tp ts) = fun v σ H Q => gTup X.K ts.length (tgRs X.K ts) v σ H Q ∨ gUnl X.K ts.length (tgRs X.K ts) v σ H Q := by funext v σ H Q; simp [tgR]
  rw [q]
  exact PG.or (pg_tup hc h hn hst) (pg_unl hc h hn hst)

structure Wk (K : PySem.W.Frag) (S1 : Sto) (H1 : Hp) (J : It) (its : List Pv) (gd : Sto → Prop) : Prop where
  go : ∀ S H (i : Nat) x, Ext S1 H1 S H → RepS K H S → gd S → its[i]? = some x → J.go i H ∧ ∀ v H', J.yld i H v H' → RepV K H' S x v ∧ RepS K H' S ∧ Ext S H S H'
  stop : ∀ S H, Ext S1 H1 S H → RepS K H S → gd S → J.stop its.length H
abbrev PFI := Env' → Sto → (List Pv → (Sto → Prop) → Sto → Prop) → Prop
def liftI (K : PySem.W.Frag) (S0 : Sto) (H0 : Hp) (f : PFI) : TI := fun σ H R => ∃ ρ S, RepE K H S σ ρ ∧ RepS K H S ∧ Ext S0 H0 S H ∧
  f ρ S fun its gd S' => ∀ J H', Wk K S' H' J its gd → RepS K H' S' → Ext S H S' H' → R J H'
structure PIt (X : Cx) (S0 : Sto) (H0 : Hp) (tg iter : Expr) (f : PFI) : Prop where
  mono : ∀ ρ S Q Q', (∀ p g S', Q p g S' → Q' p g S') → f ρ S Q → f ρ S Q'
  pi : PI X tg iter (liftI X.K S0 H0 f)
theorem PI.imp {tg iter : Expr} {t t' : TI} (h : PI X tg iter t) (i : ∀ σ H R, t' σ H R → t σ H R) : PI X tg iter t' := ⟨fun pins s σ H R I q => h.run pins s σ H R I (i σ H R q)⟩
abbrev tru : Sto → Prop := fun _ => True
def chars (z : Str) : List Pv := z.cps.toList.map fun c => .str ⟨#[c]⟩
def itP (S : Sto) : Pv → Option (List Pv × (Sto → Prop))
  | .tup xs => some (xs, tru)
  | .lst xs => some (xs, tru)
  | .scr xs => some (xs, tru)
  | .str z => some (chars z, tru)
  | .ref a => match S a with
    | some (.lst xs) => some (xs, fun S' => S' a = some (.lst xs))
    | _ => none
  | _ => none
def fIt (f : PF) : PFI := fun ρ S Q => f ρ S fun p S1 => match itP S1 p with
  | some (its, gd) => Q its gd S1
  | none => False
theorem wk_tup {K : PySem.W.Frag} {S1 : Sto} {H1 : Hp} {a : Addr} {vs : List V} {its : List Pv} (rs1 : RepS K H1 S1) (hq : SqT K H1 a vs) (r : RepVs K H1 S1 its vs) : Wk K S1 H1 (Itt K a) its tru := by
  refine ⟨fun S H i x e rs g hx => ?_, fun S H e rs g => ?_⟩
  · obtain ⟨v, hv, rv⟩ := (RepVs.ext rs1 e _ _ r).get hx
    have hq' := SqT.ext rs1 e hq
    refine ⟨⟨vs, v, hq', hv⟩, fun w H' y => ?_⟩
    obtain ⟨rfl, y⟩ := y
    have e1 := y vs hq'
    rw [hv] at e1; cases e1
    exact ⟨rv, rs, Ext.refl S _⟩
  · exact ⟨vs, SqT.ext rs1 e hq, by rw [r.len]; exact Nat.le_refl _⟩
theorem wk_list' {K : PySem.W.Frag} {S1 : Sto} {H1 : Hp} {a : Addr} {its : List Pv} {gd : Sto → Prop} (h : ∀ S H, Ext S1 H1 S H → RepS K H S → gd S → ∃ vs, SqL K H a vs ∧ RepVs K H S its vs) : Wk K S1 H1 (Itl K a) its gd := by
  refine ⟨fun S H i x e rs g hx => ?_, fun S H e rs g => ?_⟩
  · obtain ⟨vs, hq, r⟩ := h S H e rs g
    obtain ⟨v, hv, rv⟩ := r.get hx
    refine ⟨⟨vs, v, hq, hv⟩, fun w H' y => ?_⟩
    obtain ⟨rfl, y⟩ := y
    have e1 := y vs hq
    rw [hv] at e1; cases e1
    exact ⟨rv, rs, Ext.refl S _⟩
  · obtain ⟨vs, hq, r⟩ := h S H e rs g
    exact ⟨vs, hq, by rw [r.len]; exact Nat.le_refl _⟩
def gdL (S : Sto) (x : Pv) (xs : List Pv) : Sto → Prop := match x with
  | .ref a => fun S' => S' a = some (.lst xs)
  | _ => tru
theorem rdL_stay {K : PySem.W.Frag} {S1 : Sto} {H1 : Hp} {x : Pv} {v : V} {xs : List Pv} (rs1 : RepS K H1 S1) (rx : RepV K H1 S1 x v) (e0 : rdL S1 x = some xs) : ∃ a, v = .ref a ∧ ∀ S H, Ext S1 H1 S H → RepS K H S → gdL S1 x xs S → ∃ vs, SqL K H a vs ∧ RepVs K H S xs vs := by
  cases x with
  | lst ys =>
    have e' : ys = xs := by simpa [rdL] using e0
    subst e'
    obtain ⟨a, vs, e1, h, hs, r⟩ := rx
    exact ⟨a, e1, fun S H e rs g => ⟨vs, .inl (.inl (e.keep _ _ h hs)), RepVs.ext rs1 e _ _ r⟩⟩
  | scr ys =>
    have e' : ys = xs := by simpa [rdL] using e0
    subst e'
    obtain ⟨a, vs, e1, h, r⟩ := rx
    refine ⟨a, e1, fun S H e rs g => ⟨vs, ?_, RepVs.ext rs1 e _ _ r⟩⟩
    rcases h with ⟨o, h⟩ | h
    · exact .inl (.inr ⟨o, e.keep _ _ h (rs1.frz h)⟩)
    · exact sqL_of h
  | ref a =>
    refine ⟨a, rx, fun S H e rs g => ?_⟩
    obtain ⟨vs, h, r⟩ := rs a _ (show S a = some (.lst xs) from g)
    exact ⟨vs, .inl (.inl h), r⟩
  | _ => simp [rdL] at e0
def rIt (K : PySem.W.Frag) (x : V) (H : Hp) (R : It → Hp → Prop) : Prop :=
  (∃ a, x = .ref a ∧ (∃ xs, SqL K H a xs) ∧ R (Itl K a) H) ∨ (∃ a, x = .ref a ∧ (∃ xs, SqT K H a xs) ∧ R (Itt K a) H) ∨ ∃ z, x = .str z ∧ R (Its z) H
theorem pi_val {tg l : Expr} {tl : TE} (hl : PE X l tl) : PI X tg l (fun σ H R => tl σ H fun x H1 => rIt X.K x H1 R) := by
  refine ⟨fun pins s σ H R I hw => thn (hl.run pins s σ H _ I hw) fun u s1 hq => ?_⟩
  obtain ⟨x, H1, I1, ru, q⟩ := hq
  rcases q with ⟨l', e, ⟨xs, hx⟩, q⟩ | ⟨l', e, ⟨xs, hx⟩, q⟩ | ⟨z, e, q⟩
  · subst e; cases ru
    obtain ⟨vals, _, pl, _⟩ := I1.list hx
    exact wpAny_pyIter_list pl.isList (pi_one (tk := s1.toks) I1 _ (turn_list l' _) ⟨_, Heap.get?_push_size _ rfl, rfl, rfl⟩ q)
  · subst e; cases ru
    obtain ⟨vals, _, pt, _⟩ := I1.tuple hx
    exact wpAny_pyIter_tuple (items := vals.toArray) pt (pi_one (tk := s1.toks) I1 _ (turn_tuple l' _) ⟨_, Heap.get?_push_size _ rfl, rfl, rfl⟩ q)
  · subst e
    obtain ⟨t, rfl⟩ := ru
    by_cases ha : z.cps.all (· < 128) = true
    · exact wpAny_pyIter_ascii ha (pi_one (tk := s1.toks) I1 _ (turn_str _ z t _ (.inl rfl)) ⟨_, Heap.get?_push_size _ rfl, rfl, rfl⟩ q)
    · exact wpAny_pyIter_wide (by simpa using ha) (pi_one (tk := s1.toks) I1 _ (turn_str _ z t _ (.inr rfl)) ⟨_, Heap.get?_push_size _ rfl, rfl, rfl⟩ q)
theorem wk_str {K : PySem.W.Frag} {S1 : Sto} {H1 : Hp} {z : Str} : Wk K S1 H1 (Its z) (chars z) tru := by
  refine ⟨fun S H i x e rs g hx => ?_, fun S H e rs g => ?_⟩
  · unfold chars at hx
    rw [List.getElem?_map, Option.map_eq_some_iff] at hx
    obtain ⟨c, hc, rfl⟩ := hx
    have hc' : z.cps[i]? = some c := by simpa using hc
    refine ⟨(Array.getElem?_eq_some_iff.mp hc').1, fun w H' y => ?_⟩
    obtain ⟨rfl, c', e1, e2⟩ := y
    rw [hc'] at e1; cases e1
    exact ⟨e2, rs, Ext.refl S _⟩
  · show z.cps.size ≤ _
    unfold chars
    simp
theorem pit_val {tg : Expr} (h : PV X S0 H0 a fa) : PIt X S0 H0 tg a (fIt fa) := by
  refine ⟨fun ρ S Q Q' i q => h.mono _ _ _ _ (fun p S1 q => ?_) q, PI.imp (pi_val h.pe) fun σ H R ⟨ρ, S, re, rs, ex, q⟩ => ?_⟩
  · split at q
    · exact i _ _ _ q
    · exact q
  · refine ⟨ρ, S, re, rs, ex, h.mono _ _ _ _ (fun p S1 q v H1 rv rs1 ex1 => ?_) q⟩
    cases p with
    | tup xs =>
      have rv' := rv
      obtain ⟨t, vs, e1, hq, r⟩ := rv
      exact .inr (.inl ⟨t, e1, ⟨vs, hq⟩, q _ H1 (wk_tup rs1 hq r) rs1 ex1⟩)
    | lst xs =>
      obtain ⟨t, e1, k⟩ := rdL_stay (xs := xs) rs1 rv rfl
      obtain ⟨vs, hq, _⟩ := k S1 H1 (Ext.refl _ _) rs1 trivial
      exact .inl ⟨t, e1, ⟨vs, hq⟩, q _ H1 (wk_list' k) rs1 ex1⟩
    | scr xs =>
      obtain ⟨t, e1, k⟩ := rdL_stay (xs := xs) rs1 rv rfl
      obtain ⟨vs, hq, _⟩ := k S1 H1 (Ext.refl _ _) rs1 trivial
      exact .inl ⟨t, e1, ⟨vs, hq⟩, q _ H1 (wk_list' k) rs1 ex1⟩
    | str z => exact .inr (.inr ⟨z, rv, q _ H1 wk_str rs1 ex1⟩)
    | ref b =>
      simp only [itP] at q
      cases hb : S1 b with
      | none => rw [hb] at q; exact q.elim
      | some m =>
        cases m with
        | lst xs =>
          rw [hb] at q
          obtain ⟨t, e1, k⟩ := rdL_stay (xs := xs) rs1 rv (by simp [rdL, hb])
          obtain ⟨vs, hq, _⟩ := k S1 H1 (Ext.refl _ _) rs1 hb
          exact .inl ⟨t, e1, ⟨vs, hq⟩, q _ H1 (wk_list' k) rs1 ex1⟩
        | _ => rw [hb] at q; exact q.elim
    | _ => exact q.elim
def rngP (lo hi : Int) : List Pv := (List.range (hi - lo).toNat).map fun (k : Nat) => .int (lo + k)
theorem wk_rng {K : PySem.W.Frag} {S1 : Sto} {H1 : Hp} {lo hi : Int} : Wk K S1 H1 (Itr lo (hi - lo).toNat) (rngP lo hi) tru := by
  refine ⟨fun S H i x e rs g hx => ?_, fun S H e rs g => ?_⟩
  · unfold rngP at hx
    rw [List.getElem?_map, Option.map_eq_some_iff] at hx
    obtain ⟨c, hc, rfl⟩ := hx
    have hi' : i < (hi - lo).toNat := by
      have := (List.getElem?_eq_some_iff.mp hc).1
      simpa using this
    have e2 : i = c := by simpa [List.getElem?_range hi'] using hc
    subst e2
    refine ⟨hi', fun w H' y => ?_⟩
    obtain ⟨rfl, rfl⟩ := y
    exact ⟨rfl, rs, Ext.refl S _⟩
  · show (hi - lo).toNat ≤ _
    unfold rngP
    simp
def bnd (i : Int) : Prop := -(2 ^ 62) ≤ i ∧ i < 2 ^ 62
def fRng1 (fs : PFs) : PFI := fun ρ S Q => fs ρ S fun ps S1 => match ps with
  | [.int j] => bnd j ∧ Q (rngP 0 j) tru S1
  | _ => False
def fRng2 (fs : PFs) : PFI := fun ρ S Q => fs ρ S fun ps S1 => match ps with
  | [.int i, .int j] => (bnd i ∧ bnd j) ∧ Q (rngP i j) tru S1
  | _ => False
theorem pit_range1 {tg : Expr} {fs : PFs} {p : Pos} (hm : X.mg "range" = none) (ha : PVs X S0 H0 [a] fs) (hg : Gl X "range" := by rfl) (hs : starEach [a] X.env = [(false, eval a X.env)] := by rfl) : PIt X S0 H0 tg (.Call (.Name "range" p) [a] [] pos) (fRng1 fs) := by
  refine ⟨fun ρ S Q Q' i q => ha.mono _ _ _ _ (fun ps S1 q => ?_) q, PI.imp (pi_range1 hg hm ha.pa hs) fun σ H R ⟨ρ, S, re, rs, ex, q⟩ => ?_⟩
  · split at q
    · exact ⟨q.1, i _ _ _ q.2⟩
    · exact q
  · refine ⟨ρ, S, re, rs, ex, ha.mono _ _ _ _ (fun ps S1 q vs H1 rv rs1 ex1 => ?_) q⟩
    split at q
    · rename_i j
      obtain ⟨v, rfl, r⟩ := rv.one
      refine ⟨j, by rw [show v = _ from r], q.1.1, q.1.2, q.2 _ H1 ?_ rs1 ex1⟩
      have w := wk_rng (K := X.K) (S1 := S1) (H1 := H1) (lo := 0) (hi := j)
      rw [Int.sub_zero] at w
      exact w
    · exact q.elim
theorem pit_range2 {tg : Expr} {fs : PFs} {p : Pos} (hm : X.mg "range" = none) (ha : PVs X S0 H0 [a, b] fs) (hg : Gl X "range" := by rfl) (hs : starEach [a, b] X.env = [(false, eval a X.env), (false, eval b X.env)] := by rfl) (hs2 : starEach [b] X.env = [(false, eval b X.env)] := by rfl) : PIt X S0 H0 tg (.Call (.Name "range" p) [a, b] [] pos) (fRng2 fs) := by
  refine ⟨fun ρ S Q Q' i q => ha.mono _ _ _ _ (fun ps S1 q => ?_) q, PI.imp (pi_range2 hg hm ha.pa hs hs2) fun σ H R ⟨ρ, S, re, rs, ex, q⟩ => ?_⟩
  · split at q
    · exact ⟨q.1, i _ _ _ q.2⟩
    · exact q
  · refine ⟨ρ, S, re, rs, ex, ha.mono _ _ _ _ (fun ps S1 q vs H1 rv rs1 ex1 => ?_) q⟩
    split at q
    · rename_i i j
      obtain ⟨v, u, rfl, r, r'⟩ := rv.two
      exact ⟨i, j, by rw [show v = _ from r, show u = _ from r'], ⟨q.1.1.1, q.1.1.2, q.1.2.1, q.1.2.2⟩, q.2 _ H1 wk_rng rs1 ex1⟩
    · exact q.elim
def zipP (xs ys : List Pv) : List Pv := List.zipWith (fun x y => .tup [x, y]) xs ys
theorem zipP_get {xs ys : List Pv} {i : Nat} {z : Pv} (h : (zipP xs ys)[i]? = some z) : ∃ x y, xs[i]? = some x ∧ ys[i]? = some y ∧ z = .tup [x, y] := by
  unfold zipP at h
  rw [List.getElem?_zipWith] at h
  cases hx : xs[i]? with
  | none => rw [hx] at h; simp at h
  | some x =>
    cases hy : ys[i]? with
    | none => rw [hx, hy] at h; simp at h
    | some y => rw [hx, hy] at h; simp at h; exact ⟨x, y, rfl, rfl, h.symm⟩
def fZip (fs : PFs) : PFI := fun ρ S Q => fs ρ S fun ps S1 => match ps with
  | [.tup xs, .tup ys] => Q (zipP xs ys) tru S1
  | [x, y] => (match rdL S1 x, rdL S1 y with
    | some xs, some ys => Q (zipP xs ys) (fun S' => gdL S1 x xs S' ∧ gdL S1 y ys S') S1
    | _, _ => False)
  | _ => False
theorem pair_new {K : PySem.W.Frag} {S : Sto} {H : Hp} {T : Addr} {x y : Pv} {v u : V} (rs : RepS K H S) (nT : H T = none) (rx : RepV K H S x v) (ry : RepV K H S y u) : RepV K (upd H T (.tup [v, u])) S (.tup [x, y]) (.ref T) ∧ RepS K (upd H T (.tup [v, u])) S ∧ Ext S H S (upd H T (.tup [v, u])) :=
  newT_k rs nT ⟨v, [u], rfl, rx, u, [], rfl, ry, rfl⟩
theorem wk_zipT {K : PySem.W.Frag} {S1 : Sto} {H1 : Hp} {a b : Addr} {vs us : List V} {xs ys : List Pv} (rs1 : RepS K H1 S1) (h1 : SqT K H1 a vs) (h2 : SqT K H1 b us) (r1 : RepVs K H1 S1 xs vs) (r2 : RepVs K H1 S1 ys us) : Wk K S1 H1 (RZ.ItzT K a b) (zipP xs ys) tru := by
  refine ⟨fun S H i z e rs g hz => ?_, fun S H e rs g => ?_⟩
  · obtain ⟨x, y, hx, hy, rfl⟩ := zipP_get hz
    obtain ⟨v, hv, rv⟩ := (RepVs.ext rs1 e _ _ r1).get hx
    obtain ⟨u, hu, ru⟩ := (RepVs.ext rs1 e _ _ r2).get hy
    have q1 := SqT.ext rs1 e h1
    have q2 := SqT.ext rs1 e h2
    refine ⟨⟨vs, us, v, u, q1, q2, hv, hu⟩, fun w H' yl => ?_⟩
    obtain ⟨T, x', y', rfl, nT, rfl, f1, f2⟩ := yl
    have e1 := f1 vs q1
    have e2 := f2 us q2
    rw [hv] at e1; cases e1
    rw [hu] at e2; cases e2
    exact pair_new rs nT rv ru
  · refine ⟨vs, us, SqT.ext rs1 e h1, SqT.ext rs1 e h2, ?_⟩
    unfold zipP
    rw [List.length_zipWith, r1.len, r2.len]
    omega
theorem wk_zipL {K : PySem.W.Frag} {S1 : Sto} {H1 : Hp} {a b : Addr} {xs ys : List Pv} {g1 g2 : Sto → Prop} (h1 : ∀ S H, Ext S1 H1 S H → RepS K H S → g1 S → ∃ vs, SqL K H a vs ∧ RepVs K H S xs vs) (h2 : ∀ S H, Ext S1 H1 S H → RepS K H S → g2 S → ∃ vs, SqL K H b vs ∧ RepVs K H S ys vs) :
    Wk K S1 H1 (Itz K a b) (zipP xs ys) (fun S => g1 S ∧ g2 S) := by
  refine ⟨fun S H i z e rs g hz => ?_, fun S H e rs g => ?_⟩
  · obtain ⟨x, y, hx, hy, rfl⟩ := zipP_get hz
    obtain ⟨vs, q1, r1⟩ := h1 S H e rs g.1
    obtain ⟨us, q2, r2⟩ := h2 S H e rs g.2
    obtain ⟨v, hv, rv⟩ := r1.get hx
    obtain ⟨u, hu, ru⟩ := r2.get hy
    refine ⟨⟨vs, us, v, u, q1, q2, hv, hu⟩, fun w H' yl => ?_⟩
    obtain ⟨T, x', y', rfl, nT, rfl, f1, f2⟩ := yl
    have e1 := f1 vs q1
    have e2 := f2 us q2
    rw [hv] at e1; cases e1
    rw [hu] at e2; cases e2
    exact pair_new rs nT rv ru
  · obtain ⟨vs, q1, r1⟩ := h1 S H e rs g.1
    obtain ⟨us, q2, r2⟩ := h2 S H e rs g.2
    refine ⟨vs, us, q1, q2, ?_⟩
    unfold zipP
    rw [List.length_zipWith, r1.len, r2.len]
    omega
theorem pit_zip {elts : List Expr} {kk : Nat} {tpos : Pos} {fs : PFs} {p : Pos} (hm : X.mg "zip" = none) (ha : PVs X S0 H0 [a, b] fs) (hg : Gl X "zip" := by rfl) (hs : starEach [a, b] X.env = (false, eval a X.env) :: starEach [b] X.env := by rfl) (hpl : (backTo pos (starEach [b] X.env)).any (·.1) = false := by rfl) :
    PIt X S0 H0 (.Tuple elts kk tpos) (.Call (.Name "zip" p) [a, b] [] pos) (fZip fs) := by
  refine ⟨fun ρ S Q Q' i q => ha.mono _ _ _ _ (fun ps S1 q => ?_) q, PI.imp (RZ.pi_zipA hg hm ha.pa hs hpl) fun σ H R ⟨ρ, S, re, rs, ex, q⟩ => ?_⟩
  · split at q
    · exact i _ _ _ q
    · split at q
      · exact i _ _ _ q
      · exact q
    · exact q
  · refine ⟨ρ, S, re, rs, ex, ha.mono _ _ _ _ (fun ps S1 q vs H1 rv rs1 ex1 => ?_) q⟩
    split at q
    · obtain ⟨v, u, rfl, r, r'⟩ := rv.two
      obtain ⟨l1, vs1, e1, h1, r1⟩ := r
      obtain ⟨l2, vs2, e2, h2, r2⟩ := r'
      exact ⟨l1, l2, vs1, vs2, by rw [e1, e2], .inr ⟨h1, h2, q _ H1 (wk_zipT rs1 h1 h2 r1 r2) rs1 ex1⟩⟩
    · obtain ⟨v, u, rfl, r, r'⟩ := rv.two
      split at q
      · rename_i xs ys e1 e2
        obtain ⟨l1, w1, k1⟩ := rdL_stay rs1 r e1
        obtain ⟨l2, w2, k2⟩ := rdL_stay rs1 r' e2
        obtain ⟨l1', vs1, w1', h1, _⟩ := rdL_rep rs1 r e1
        obtain ⟨l2', vs2, w2', h2, _⟩ := rdL_rep rs1 r' e2
        rw [w1] at w1'; cases w1'
        rw [w2] at w2'; cases w2'
        exact ⟨l1, l2, vs1, vs2, by rw [w1, w2], .inl ⟨h1, h2, q _ H1 (wk_zipL k1 k2) rs1 ex1⟩⟩
      · exact q.elim
    · exact q.elim
variable {st : Stmt} {sts : List Stmt} {g g' : PFS}
def gNext : PFS := fun D ρ S => D.nx ρ S
def gSeq (g g' : PFS) : PFS := fun D ρ S => g { D with nx := g' D } ρ S
theorem pzs_nil : PZs X S0 H0 [] gNext := ⟨fun D D' ρ S h q => h.1 _ _ q, PSs.imp pss_nil fun D σ H ⟨ρ, S, re, rs, _, q⟩ => q σ H re rs (Ext.refl S H)⟩
theorem pzs_one (h : PZ X S0 H0 st g) : PZs X S0 H0 [st] g := ⟨h.mono, pss_one h.ps⟩
theorem pzs_cons (h : PZ X S0 H0 st g) (h' : PZs X S0 H0 sts g') : PZs X S0 H0 (st :: sts) (gSeq g g') := by
  refine ⟨fun D D' ρ S l q => h.mono { D with nx := g' D } { D' with nx := g' D' } _ _ ⟨fun r s q => h'.mono _ _ _ _ l q, l.2.1, l.2.2.1, l.2.2.2⟩ q, PSs.imp (pss_cons h.ps h'.pss) fun D σ H ⟨ρ, S, re, rs, ex, q⟩ => ?_⟩
  refine ⟨ρ, S, re, rs, ex, h.mono { lE X.K S H D with nx := g' (lE X.K S H D) } _ _ _ ⟨fun ρ1 S1 q σ1 H1 re1 rs1 ex1 => ?_, fun _ _ q => q, fun _ _ q => q, fun _ _ q => q⟩ q⟩
  exact ⟨ρ1, S1, re1, rs1, ex.trans ex1, h'.mono _ _ _ _ (lE_le ex1) q⟩
def gRet (f : PF) : PFS := fun D ρ S => f ρ S D.rt
theorem pz_ret (h : PV X S0 H0 a fa) : PZ X S0 H0 (.Return (some a) pos) (gRet fa) :=
  ⟨fun D D' ρ S l q => h.mono _ _ _ _ l.2.1 q, PS.imp (ps_ret h.pe) fun D σ H q => q⟩
def gDrop (f : PF) : PFS := fun D ρ S => f ρ S fun _ S1 => D.nx ρ S1
theorem pz_expr (h : PV X S0 H0 a fa) (hs : swapsWith a none pos.line X.env = pure false := by rfl) : PZ X S0 H0 (.Expr a pos) (gDrop fa) := by
  refine ⟨fun D D' ρ S l q => h.mono _ _ _ _ (fun _ _ q => l.1 _ _ q) q, PS.imp (ps_expr h.pe hs) fun D σ H ⟨ρ, S, re, rs, ex, q⟩ => ?_⟩
  exact ⟨ρ, S, re, rs, ex, h.mono _ _ _ _ (fun p S1 q v H1 rv rs1 ex1 => q σ H1 (re.ext rs ex1) rs1 ex1) q⟩
def gIf (c : PFB) (g g' : PFS) : PFS := fun D ρ S => c ρ S fun b S1 => cnd b (g D ρ S1) (g' D ρ S1)
theorem pz_if {c : Expr} {fc : PFB} {s1 s2 : List Stmt} (hc : PB X S0 H0 c fc) (h : PZs X S0 H0 s1 g) (h' : PZs X S0 H0 s2 g') : PZ X S0 H0 (.If c s1 s2 pos) (gIf fc g g') := by
  refine ⟨fun D D' ρ S l q => hc.mono _ _ _ _ (fun b S1 q => ?_) q, PS.imp (ps_if hc.pt h.pss h'.pss) fun D σ H ⟨ρ, S, re, rs, ex, q⟩ => ?_⟩
  · cases b with
    | true => exact h.mono _ _ _ _ l q
    | false => exact h'.mono _ _ _ _ l q
  · refine ⟨ρ, S, re, rs, ex, hc.mono _ _ _ _ (fun b S1 q H1 rs1 ex1 => ?_) q⟩
    cases b with
    | true => exact ⟨ρ, S1, re.ext rs ex1, rs1, ex.trans ex1, h.mono _ _ _ _ (lE_le ex1) q⟩
    | false => exact ⟨ρ, S1, re.ext rs ex1, rs1, ex.trans ex1, h'.mono _ _ _ _ (lE_le ex1) q⟩
def gSet (i : Nat) (f : PF) : PFS := fun D ρ S => f ρ S fun p S1 => D.nx (ρ.set i (some p)) S1
theorem pz_set (i : Nat) {x : Str} {pos' : Pos} (hN : X.N.Nodup) (h : PV X S0 H0 a fa) (hi : X.N[i]? = some x := by rfl) (hx : Loc X.env.scope x := by first | exact Or.inl rfl | exact Or.inr rfl) (hs : swapsWith a (some (.Name x pos')) pos.line X.env = pure false := by rfl)
    (hf : X.fn x = true ∨ X.env.scope.names.lookup x = some .local := by first | exact .inl rfl | exact .inr rfl | assumption) : PZ X S0 H0 (.Assign [.Name x pos'] a pos) (gSet i fa) := by
  refine ⟨fun D D' ρ S l q => h.mono _ _ _ _ (fun _ _ q => l.1 _ _ q) q, PS.imp (ps_set hN hi hx h.pe hs hf) fun D σ H ⟨ρ, S, re, rs, ex, q⟩ => ?_⟩
  exact ⟨ρ, S, re, rs, ex, h.mono _ _ _ _ (fun p S1 q v H1 rv rs1 ex1 => q _ H1 ((re.ext rs ex1).set i rv) rs1 ex1) q⟩
def gTgt (t : Tg) (f : PF) : PFS := fun D ρ S => f ρ S fun p S1 => match bindT S1 t p ρ with
  | some ρ' => D.nx ρ' S1
  | none => False
theorem pz_tgt {t : Tg} {tg : Expr} (h : PV X S0 H0 a fa) (hg : PG X tg (tgR X.K t)) (hs : swapsWithSole [tg] a pos.line X.env = pure false := by rfl) (hw : swappedStores [tg] a X.env = pure none := by rfl)
    (h1 : (assignEach [tg] X.env).map (·.2) = [assign tg X.env] := by rfl) : PZ X S0 H0 (.Assign [tg] a pos) (gTgt t fa) := by
  refine ⟨fun D D' ρ S l q => h.mono _ _ _ _ (fun _ _ q => ?_) q, PS.imp (ps_asg h.pe hg hs hw h1) fun D σ H ⟨ρ, S, re, rs, ex, q⟩ => ?_⟩
  · split at q
    · exact l.1 _ _ q
    · exact q
  · refine ⟨ρ, S, re, rs, ex, h.mono _ _ _ _ (fun p S1 q v H1 rv rs1 ex1 => ?_) q⟩
    split at q
    · rename_i ρ' e
      exact tg_run rs1 t p v σ ρ ρ' _ rv (re.ext rs ex1) e fun σ' r' _ => q σ' H1 r' rs1 ex1
    · exact q.elim
def gPar (i j : Nat) (fs : PFs) : PFS := fun D ρ S => fs ρ S fun ps S1 => match ps with
  | [p, q] => D.nx ((ρ.set i (some p)).set j (some q)) S1
  | _ => False
theorem pz_par (i j : Nat) {x y : Str} {fs : PFs} {px py pt pt2 : Pos} {kt k2 : Nat} (hc : X.calm = true) (hN : X.N.Nodup) (hv : PVs X S0 H0 [a, b] fs) (hi : X.N[i]? = some x := by rfl) (hj : X.N[j]? = some y := by rfl) (hij : i ≠ j := by decide) (hx : X.env.scope.names.lookup x = some .local := by rfl) (hy : X.env.scope.names.lookup y = some .local := by rfl)
    (hw : swappedStores [.Tuple [.Name x px, .Name y py] kt pt] (.Tuple [a, b] k2 pt2) X.env = pure (some [x, y]) := by rfl) (hs : swapsWithSole [.Tuple [.Name x px, .Name y py] kt pt] (.Tuple [a, b] k2 pt2) pos.line X.env = pure false := by rfl) :
    PZ X S0 H0 (.Assign [.Tuple [.Name x px, .Name y py] kt pt] (.Tuple [a, b] k2 pt2) pos) (gPar i j fs) := by
  refine ⟨fun D D' ρ S l q => hv.mono _ _ _ _ (fun ps S1 q => ?_) q, PS.imp (ps_par hc hN hi hj hij hx hy hv.pa hw hs) fun D σ H ⟨ρ, S, re, rs, ex, q⟩ => ?_⟩
  · split at q
    · exact l.1 _ _ q
    · exact q
  · refine ⟨ρ, S, re, rs, ex, hv.mono _ _ _ _ (fun ps S1 q vs H1 rv rs1 ex1 => ?_) q⟩
    split at q
    · obtain ⟨v, u, rfl, r, r'⟩ := rv.two
      exact ⟨v, u, rfl, q _ H1 (((re.ext rs ex1).set i r).set j r') rs1 ex1⟩
    · exact q.elim
def gPar3 (i j l : Nat) (fs : PFs) : PFS := fun D ρ S => fs ρ S fun ps S1 => match ps with
  | [p, q, r] => D.nx (((ρ.set i (some p)).set j (some q)).set l (some r)) S1
  | _ => False

def forW (gd : Sto → Prop) (t : Tg) (b : PFS) (D : Ends') : List Pv → Env' → Sto → Prop
  | [], ρ, S => gd S ∧ D.nx ρ S
  | x :: xs, ρ, S => gd S ∧ match bindT S t x ρ with
    | some ρ' => b { nx := forW gd t b D xs, rt := D.rt, bk := D.nx, ct := forW gd t b D xs } ρ' S
    | none => False
def gFor (fi : PFI) (t : Tg) (b : PFS) : PFS := fun D ρ S => fi ρ S fun its gd S1 => forW gd t b D its ρ S1
theorem forW_mono {gd : Sto → Prop} {t : Tg} {b : PFS} (hb : ∀ D D' ρ S, Ends'.le D D' → b D ρ S → b D' ρ S) {D D' : Ends'} (l : D.le D') : ∀ (its : List Pv) (ρ : Env') (S : Sto), forW gd t b D its ρ S → forW gd t b D' its ρ S
  | [], ρ, S, q => ⟨q.1, l.1 _ _ q.2⟩
  | x :: xs, ρ, S, q => by
    refine ⟨q.1, ?_⟩
    have q2 := q.2
    split at q2
    · exact hb { nx := forW gd t b D xs, rt := D.rt, bk := D.nx, ct := forW gd t b D xs } _ _ _ ⟨fun r s q => forW_mono hb l xs r s q, l.2.1, l.1, fun r s q => forW_mono hb l xs r s q⟩ q2
    · exact q2.elim
theorem pz_for {tg iter : Expr} {fi : PFI} {t : Tg} (hp : PassesOwn (model X.prog X.w) X.A X.env X.xe) (hc : X.calm = true) (hi : PIt X S0 H0 tg iter fi) (hg : PG X tg (tgR X.K t)) (hb : PZs X S0 H0 sts g)
    (hs : ∀ x, foldedSetIterable iter X.env x = pure x := by intro _; rfl) : PZ X S0 H0 (.For tg iter sts [] pos) (gFor fi t g) := by
  refine ⟨fun D D' ρ S l q => hi.mono _ _ _ _ (fun its gd S1 q => forW_mono hb.mono l its ρ S1 q) q, PS.imp (ps_for hp hc hi.pi hg hb.pss hs) fun D σ H ⟨ρ, S, re, rs, ex, q⟩ => ?_⟩
  refine ⟨ρ, S, re, rs, ex, hi.mono _ _ _ _ (fun its gd S1 q J H1 w rs1 ex1 => ?_) q⟩
  let D' : Ends' := lE X.K S H D
  have q' : forW gd t g D' its ρ S1 := q
  refine ⟨fun i m σ2 H2 => i + m = its.length ∧ ∃ ρ2 S2, RepE X.K H2 S2 σ2 ρ2 ∧ RepS X.K H2 S2 ∧ Ext S1 H1 S2 H2 ∧ forW gd t g D' (its.drop i) ρ2 S2, ⟨its.length, by omega, ρ, S1, re.ext rs ex1, rs1, Ext.refl _ _, by rw [List.drop_zero]; exact q'⟩, fun i m σ2 H2 hW => ?_⟩
  obtain ⟨em, ρ2, S2, re2, rs2, ex2, q2⟩ := hW
  cases hd : its.drop i with
  | nil =>
    rw [hd] at q2
    have hil : its.length ≤ i := by
      have := congrArg List.length hd
      simp at this
      omega
    have e0 : i = its.length := by omega
    subst e0
    exact .inl ⟨w.stop S2 H2 ex2 rs2 q2.1, q2.2 σ2 H2 re2 rs2 (ex1.trans ex2)⟩
  | cons x xs =>
    rw [hd] at q2
    have hil : i < its.length := by
      have := congrArg List.length hd
      simp at this
      omega
    have hx : its[i]? = some x := by
      have := congrArg (fun l => l[0]?) hd
      simpa using this
    have hxs : its.drop (i + 1) = xs := by
      have := congrArg (List.drop 1) hd
      simpa [Nat.add_comm] using this
    obtain ⟨hgo, hy⟩ := w.go S2 H2 i x ex2 rs2 q2.1 hx
    refine .inr ⟨hgo, fun σ3 H3 => ∃ ρ3 S3, RepE X.K H3 S3 σ3 ρ3 ∧ RepS X.K H3 S3 ∧ Ext S1 H1 S3 H3 ∧ forW gd t g D' xs ρ3 S3, fun σ3 H3 ⟨ρ3, S3, a1, a2, a3, a4⟩ => ⟨m - 1, by omega, by omega, ρ3, S3, a1, a2, a3, by rw [hxs]; exact a4⟩, fun v H3 yl => ?_⟩
    obtain ⟨rv, rs3, ex3⟩ := hy v H3 yl
    have q3 := q2.2
    split at q3
    · rename_i ρ' eb
      refine tg_run rs3 t x v σ2 ρ2 ρ' _ rv (re2.ext rs2 ex3) eb fun σ4 re4 _ => ?_
      have e23 := ex2.trans ex3
      have e03 := (ex.trans ex1).trans e23
      refine ⟨ρ', S2, re4, rs3, e03, hb.mono { nx := forW gd t g D' xs, rt := D'.rt, bk := D'.nx, ct := forW gd t g D' xs } _ _ _ ⟨?_, ?_, ?_, ?_⟩ q3⟩
      · exact fun ρ5 S5 q5 σ5 H5 a1 a2 a3 => ⟨ρ5, S5, a1, a2, e23.trans a3, q5⟩
      · exact fun p S5 q5 v5 H5 a1 a2 a3 => q5 v5 H5 a1 a2 ((ex1.trans e23).trans a3)
      · exact fun ρ5 S5 q5 σ5 H5 a1 a2 a3 => q5 σ5 H5 a1 a2 ((ex1.trans e23).trans a3)
      · exact fun ρ5 S5 q5 σ5 H5 a1 a2 a3 => ⟨ρ5, S5, a1, a2, e23.trans a3, q5⟩
    · exact q3.elim
def wipeP (ρ : Env') : List Nat → Env'
  | [] => ρ
  | v :: vs => (wipeP ρ vs).set v none
theorem RepE.wipe {K : PySem.W.Frag} {H : Hp} {S : Sto} {σ : L2.St} {ρ : Env'} (r : RepE K H S σ ρ) : ∀ vs : List Nat, RepE K H S (L2.wipe σ vs) (wipeP ρ vs)
  | [] => r
  | v :: vs => by
    have ih := RepE.wipe r vs
    refine ⟨by show ((L2.wipe σ vs).set v none).length = ((wipeP ρ vs).set v none).length; rw [List.length_set, List.length_set]; exact ih.1, fun i p h => ?_⟩
    have h' : ((wipeP ρ vs).set v none)[i]? = some (some p) := h
    show ∃ w, ((L2.wipe σ vs).set v none)[i]? = some (some w) ∧ _
    by_cases hi : v = i
    · subst hi
      rw [List.getElem?_set] at h'
      simp only [if_true] at h'
      split at h' <;> cases h'
    · rw [List.getElem?_set_ne hi] at h'
      obtain ⟨w, a1, a2⟩ := ih.2 i p h'
      exact ⟨w, by rw [List.getElem?_set_ne hi]; exact a1, a2⟩
def lcW (gd : Sto → Prop) (t : Tg) (tt : PFB) (te : PF) (ρ : Env') (D : Addr) (Q : List Pv → Sto → Prop) : List Pv → List Pv → Sto → Prop
  | [], acc, S => gd (put S D (.lst acc)) ∧ Q acc S
  | x :: xs, acc, S => gd (put S D (.lst acc)) ∧ match bindT (put S D (.lst acc)) t x ρ with
    | some ρ2 => tt ρ2 (put S D (.lst acc)) fun c S2 =>
        cnd c (te ρ2 S2 fun y S3 => S3 D = some (.lst acc) ∧ acc.length < sizeLine ∧ lcW gd t tt te ρ D Q xs (acc ++ [y]) (del S3 D))
          (S2 D = some (.lst acc) ∧ lcW gd t tt te ρ D Q xs acc (del S2 D))
    | none => False
def fLc (fi : PFI) (t : Tg) (tt : PFB) (te : PF) (vs : List Nat) : PF := fun ρ S Q => fi ρ S fun its gd S1 => ∀ D, S1 D = none → lcW gd t tt te (wipeP ρ vs) D (fun acc S' => Q (.lst acc) S') its [] S1
def fYes : PFB := fun _ S Q => Q true S
theorem lcW_mono {gd : Sto → Prop} {t : Tg} {tt : PFB} {te : PF} {ρ : Env'} {D : Addr} (h1 : ∀ ρ S Q Q', (∀ p S', Q p S' → Q' p S') → tt ρ S Q → tt ρ S Q') (h2 : ∀ ρ S Q Q', (∀ p S', Q p S' → Q' p S') → te ρ S Q → te ρ S Q') {Q Q' : List Pv → Sto → Prop} (i : ∀ p S', Q p S' → Q' p S') :
    ∀ (its acc : List Pv) (S : Sto), lcW gd t tt te ρ D Q its acc S → lcW gd t tt te ρ D Q' its acc S
  | [], acc, S, q => ⟨q.1, i _ _ q.2⟩
  | x :: xs, acc, S, q => by
    refine ⟨q.1, ?_⟩
    have q2 := q.2
    split at q2
    · refine h1 _ _ _ _ (fun c S2 q => ?_) q2
      cases c with
      | true => exact h2 _ _ _ _ (fun y S3 q => ⟨q.1, q.2.1, lcW_mono h1 h2 i xs _ _ q.2.2⟩) q
      | false => exact ⟨q.1, lcW_mono h1 h2 i xs _ _ q.2⟩
    · exact q2.elim
structure PBs (X : Cx) (S0 : Sto) (H0 : Hp) (ifs : List Expr) (f : PFB) : Prop where
  mono : ∀ ρ S Q Q', (∀ p S', Q p S' → Q' p S') → f ρ S Q → f ρ S Q'
  pts : PTs X ifs (liftB X.K S0 H0 f)
theorem pbs_nil : PBs X S0 H0 [] fYes := ⟨fun _ _ _ _ h q => h _ _ q, ⟨fun pins s σ H Q I ⟨ρ, S, re, rs, ex, q⟩ => pts_nil.run pins s σ H Q I (q H rs (Ext.refl S H))⟩⟩
theorem pbs_one {c : Expr} {fc : PFB} (h : PB X S0 H0 c fc) : PBs X S0 H0 [c] fc := ⟨h.mono, pts_one h.pt⟩
end
section
variable {K : PySem.W.Frag} {H H' : Hp} {S S' : Sto} {D : Addr}
mutual
theorem RepV.less (hh : ∀ a o, H a = some o → S a = none → H' a = some o ∧ S' a = none) (ht : ∀ a vs, SqT K H a vs → SqT K H' a vs) (hf : ∀ a o u, H a = some (.frz o u) → H' a = some (.frz o u)) : ∀ (p : Pv) (v : V), RepV K H S p v → RepV K H' S' p v
  | .non, _, h => h
  | .bl _, _, h => h
  | .int _, _, h => h
  | .str _, _, h => h
  | .tup ps, _, ⟨a, vs, e1, h, r⟩ => ⟨a, vs, e1, ht _ _ h, RepVs.less hh ht hf ps vs r⟩
  | .lst ps, _, ⟨a, vs, e1, h, hs, r⟩ => ⟨a, vs, e1, (hh _ _ h hs).1, (hh _ _ h hs).2, RepVs.less hh ht hf ps vs r⟩
  | .dct ks ps, _, ⟨a, kvs, e1, h, hs, r1, r2⟩ => ⟨a, kvs, e1, h.elim (fun h => .inl (hh _ _ h hs).1) (fun ⟨o, h⟩ => .inr ⟨o, hf _ _ _ h⟩), h.elim (fun h => (hh _ _ h hs).2) (fun ⟨o, h⟩ => (hh _ _ h hs).2), RepVs.less hh ht hf ks _ r1, RepVs.less hh ht hf ps _ r2⟩
  | .ref _, _, h => h
  | .ty _, _, h => h
  | .scr ps, _, ⟨a, vs, e1, h, r⟩ => ⟨a, vs, e1, h.elim (fun ⟨o, z⟩ => .inl ⟨o, hf _ _ _ z⟩) .inr, RepVs.less hh ht hf ps vs r⟩
  | .tpx ps, _, ⟨a, vs, o, e1, h, d, r⟩ => ⟨a, vs, o, e1, hf _ _ _ h, d, RepVs.less hh ht hf ps vs r⟩
theorem RepVs.less (hh : ∀ a o, H a = some o → S a = none → H' a = some o ∧ S' a = none) (ht : ∀ a vs, SqT K H a vs → SqT K H' a vs) (hf : ∀ a o u, H a = some (.frz o u) → H' a = some (.frz o u)) : ∀ (ps : List Pv) (vs : List V), RepVs K H S ps vs → RepVs K H' S' ps vs
  | [], _, h => h
  | p :: ps, _, ⟨v, r, e1, h1, h2⟩ => ⟨v, r, e1, RepV.less hh ht hf p v h1, RepVs.less hh ht hf ps r h2⟩
end
def Sub (S' S : Sto) : Prop := ∀ a m, S' a = some m → S a = some m
theorem Sub.free (h : Sub S' S) {a : Addr} (e : S a = none) : S' a = none := by
  cases q : S' a with
  | none => rfl
  | some m => rw [h a m q] at e; cases e
theorem RepV.sub (h : Sub S' S) {p : Pv} {v : V} (r : RepV K H S p v) : RepV K H S' p v := RepV.less (fun a o e f => ⟨e, h.free f⟩) (fun _ _ q => q) (fun _ _ _ q => q) p v r
theorem RepVs.sub (h : Sub S' S) {p : List Pv} {v : List V} (r : RepVs K H S p v) : RepVs K H S' p v := RepVs.less (fun a o e f => ⟨e, h.free f⟩) (fun _ _ q => q) (fun _ _ _ q => q) p v r
theorem RepS.sub (h : Sub S' S) (r : RepS K H S) : RepS K H S' := fun a m e => by
  have q := r a m (h a m e)
  cases m with
  | lst xs => obtain ⟨vs, e1, r1⟩ := q; exact ⟨vs, e1, r1.sub h⟩
  | dct ks xs => obtain ⟨vs, e1, r1, r2⟩ := q; exact ⟨vs, e1, r1.sub h, r2.sub h⟩
  | tab n => exact q
  | exc C => exact q
  | lck o kvs => exact q
  | ob F ks xs => obtain ⟨ws, us, e1, o1, r1, r2⟩ := q; exact ⟨ws, us, e1, o1, r1.sub h, r2.sub h⟩
theorem RepE.sub {σ : L2.St} {ρ : Env'} (h : Sub S' S) (r : RepE K H S σ ρ) : RepE K H S' σ ρ := ⟨r.1, fun i p e => let ⟨v, a1, a2⟩ := r.2 i p e; ⟨v, a1, a2.sub h⟩⟩
theorem Ext.sub {S0 : Sto} {H0 : Hp} (h : Sub S' S) (e : Ext S0 H0 S H) : Ext S0 H0 S' H := ⟨e.keep, fun a n => e.new a fun z => n (h.free z)⟩
theorem Sub.refl (S : Sto) : Sub S S := fun _ _ h => h
theorem Sub.trans {S1 S2 S3 : Sto} (a : Sub S1 S2) (b : Sub S2 S3) : Sub S1 S3 := fun x m h => b x m (a x m h)
theorem Sub.put {m : Mo} (h : S D = none) : Sub S (put S D m) := fun a o e => by
  rw [put_ne (by rintro rfl; rw [h] at e; cases e)]; exact e
theorem Sub.del : Sub (del S D) S := fun a m e => by
  by_cases z : a = D
  · subst z; simp at e
  · rw [del_ne z] at e; exact e
theorem put_del {m : Mo} : put (PL.del S D) D m = put S D m := by
  funext b; simp only [put, PL.del]; split <;> rfl
theorem put_self {m : Mo} (h : S D = some m) : put S D m = S := by
  funext b; simp only [put]; split
  · rename_i e; rw [e, h]
  · rfl
theorem Ext.chg {m m' : Mo} {o : HO} (h : S D = some m) : Ext S H (put S D m') (upd H D o) :=
  ⟨fun a u ha hs => by rw [upd_ne (by rintro rfl; rw [h] at hs; cases hs)]; exact ha, fun a ha => by
    by_cases e : a = D
    · subst e; exact .inl (by rw [h]; simp)
    · rw [put_ne e] at ha; exact .inl ha⟩
theorem RepS.chg {m : Mo} {xs : List Pv} {vs : List V} (rs : RepS K H S) (h : S D = some m) (r : RepVs K H S xs vs) : RepS K (upd H D (.lst vs)) (put S D (.lst xs)) := fun a m' ha => by
  have e := Ext.chg (H := H) (m' := .lst xs) (o := .lst vs) h
  by_cases z : a = D
  · subst z
    rw [put_same] at ha; cases ha
    exact ⟨vs, upd_same, RepVs.ext rs e _ _ r⟩
  · rw [put_ne z] at ha
    have q := rs a m' ha
    cases m' with
    | lst ys => obtain ⟨us, e1, r⟩ := q; exact ⟨us, by rw [upd_ne z]; exact e1, RepVs.ext rs e _ _ r⟩
    | dct ks ys => obtain ⟨us, e1, r, r'⟩ := q; exact ⟨us, by rw [upd_ne z]; exact e1, RepVs.ext rs e _ _ r, RepVs.ext rs e _ _ r'⟩
    | tab n => exact tab_ext rs e q (by rw [upd_ne z])
    | exc C => obtain ⟨oe, e1, r⟩ := q; exact ⟨oe, by rw [upd_ne z]; exact e1, r⟩
    | lck o kvs => exact (upd_ne z).trans q
    | ob F ks xs => obtain ⟨ws, us, e1, o1, r, r'⟩ := q; exact ⟨ws, us, by rw [upd_ne z]; exact e1, o1, RepVs.ext rs e _ _ r, RepVs.ext rs e _ _ r'⟩
end
theorem wipe_wipe (σ : L2.St) : ∀ (us vs : List Nat), (∀ i ∈ vs, i ∈ us) → wipe (wipe σ vs) us = wipe σ us
  | us, [], _ => rfl
  | us, v :: vs, h => by
    show wipe ((wipe σ vs).set v none) us = _
    rw [wipe_set (h v List.mem_cons_self)]
    exact wipe_wipe σ us vs fun i hi => h i (List.mem_cons_of_mem _ hi)
section
variable {X : Cx} {S0 : Sto} {H0 : Hp} {a b : Expr} {fa fb : PF} {pos : Pos}
theorem lc_sim {fi : PFI} {t : Tg} {tt : PFB} {te : PF} {vs : List Nat} {tg iter : Expr} (hi : PIt X S0 H0 tg iter fi) (hv : ∀ i ∈ slotsT t, i ∈ vs) (m1 : ∀ ρ S Q Q', (∀ p S', Q p S' → Q' p S') → tt ρ S Q → tt ρ S Q') (m2 : ∀ ρ S Q Q', (∀ p S', Q p S' → Q' p S') → te ρ S Q → te ρ S Q')
    {σ : L2.St} {H : Hp} {Q : VK} {ρ : Env'} {S : Sto} {F : Addr → List Pv → Sto → Prop} (re : RepE X.K H S σ ρ) (rs : RepS X.K H S) (ex : Ext S0 H0 S H) (q : fi ρ S fun its gd S1 => ∀ D, S1 D = none → lcW gd t tt te (wipeP ρ vs) D (F D) its [] S1)
    (fin : ∀ D acc S' H', F D acc S' → S' D = none → RepS X.K H' (put S' D (.lst acc)) → Ext S H (put S' D (.lst acc)) H' → Q (.ref D) H') :
    tLc (liftI X.K S0 H0 fi) (tgR X.K t) (liftB X.K S0 H0 tt) (lift X.K S0 H0 te) vs σ H Q := by
  refine ⟨ρ, S, re, rs, ex, hi.mono _ _ _ _ (fun its gd S1 q J H1 w rs1 ex1 => ?_) q⟩
  intro D hD
  have q := q D (rs1.fr hD)
  refine ⟨fun i m H2 => i + m = its.length ∧ ∃ acc S2, S2 D = none ∧ RepS X.K H2 (put S2 D (.lst acc)) ∧ Ext S1 H1 (put S2 D (.lst acc)) H2 ∧ lcW gd t tt te (wipeP ρ vs) D (F D) (its.drop i) acc S2,
    ⟨its.length, by omega, [], S1, rs1.fr hD, rs1.newL hD rfl, Ext.newS hD, by rw [List.drop_zero]; exact q⟩, fun i m H2 hW => ?_⟩
  obtain ⟨em, acc, S2, n2, rs2, ex2, q2⟩ := hW
  cases hd : its.drop i with
  | nil =>
    rw [hd] at q2
    have hil : its.length ≤ i := by
      have := congrArg List.length hd
      simp at this
      omega
    have e0 : i = its.length := by omega
    subst e0
    exact .inl ⟨w.stop _ H2 ex2 rs2 q2.1, fin D acc S2 H2 q2.2 n2 rs2 (ex1.trans ex2)⟩
  | cons x xs =>
    rw [hd] at q2
    have hil : i < its.length := by
      have := congrArg List.length hd
      simp at this
      omega
    have hx : its[i]? = some x := by
      have := congrArg (fun l => l[0]?) hd
      simpa using this
    have hxs : its.drop (i + 1) = xs := by
      have := congrArg (List.drop 1) hd
      simpa [Nat.add_comm] using this
    obtain ⟨hgo, hy⟩ := w.go _ H2 i x ex2 rs2 q2.1 hx
    refine .inr ⟨hgo, fun H3 => ∃ acc S3, S3 D = none ∧ RepS X.K H3 (put S3 D (.lst acc)) ∧ Ext S1 H1 (put S3 D (.lst acc)) H3 ∧ lcW gd t tt te (wipeP ρ vs) D (F D) xs acc S3, fun H3 ⟨acc', S3, a1, a2, a3, a4⟩ => ⟨m - 1, by omega, by omega, acc', S3, a1, a2, a3, by rw [hxs]; exact a4⟩, fun v H3 yl => ?_⟩
    obtain ⟨rv, rs3, ex3⟩ := hy v H3 yl
    have q3 := q2.2
    split at q3
    · rename_i ρ' eb
      have e13 := ex2.trans ex3
      have re3 : RepE X.K H3 (put S2 D (.lst acc)) (L2.wipe σ vs) (wipeP ρ vs) := (re.ext rs (ex1.trans e13)).wipe vs
      refine tg_run rs3 t x v (L2.wipe σ vs) (wipeP ρ vs) ρ' _ rv re3 eb fun σ4 re4 w4 => ⟨by rw [w4 vs hv]; exact wipe_wipe σ vs vs fun i h => h, ?_⟩
      have e03 := (ex.trans ex1).trans e13
      refine ⟨ρ', _, re4, rs3, e03, m1 _ _ _ _ (fun c S5 q5 H5 rs5 ex5 => ?_) q3⟩
      have e15 := e13.trans ex5
      cases c with
      | true =>
        refine ⟨ρ', S5, re4.ext rs3 ex5, rs5, e03.trans ex5, m2 _ _ _ _ (fun y S6 q6 yv H6 ry rs6 ex6 => ?_) q5⟩
        obtain ⟨h1, h2, h3⟩ := q6
        obtain ⟨av, hav, ra⟩ := rs6 D _ h1
        refine ⟨av, hav, by rw [ra.len]; exact h2, acc ++ [y], del S6 D, by simp, ?_, ?_, h3⟩
        · rw [put_del]
          exact rs6.chg h1 (ra.app ⟨yv, [], rfl, ry, rfl⟩)
        · rw [put_del]
          exact (e15.trans ex6).trans (Ext.chg h1)
      | false =>
        obtain ⟨h1, h2⟩ := q5
        refine ⟨acc, del S5 D, by simp, ?_, ?_, h2⟩
        · rw [put_del, put_self h1]; exact rs5
        · rw [put_del, put_self h1]; exact e15
    · exact q3.elim
theorem lc_fin {K : PySem.W.Frag} {S : Sto} {H : Hp} {Q : VK} {G : QV} {acc : List Pv} {S' : Sto} {D : Addr} {H' : Hp} (g : G (.lst acc) S') (hn : S' D = none) (rs : RepS K H' (put S' D (.lst acc))) (e : Ext S H (put S' D (.lst acc)) H') (hG : ∀ p S', G p S' → ∀ v H', RepV K H' S' p v → RepS K H' S' → Ext S H S' H' → Q v H') : Q (.ref D) H' := by
  obtain ⟨vs, e1, r⟩ := rs D _ put_same
  have sb : Sub S' (put S' D (.lst acc)) := Sub.put hn
  exact hG _ _ g (.ref D) H' ⟨D, vs, rfl, e1, hn, r.sub sb⟩ (rs.sub sb) (e.sub sb)
variable {elt tg iter : Expr} {ifs : List Expr} {scope : Scope} {fi : PFI} {t : Tg} {tt : PFB} {te : PF}
theorem fLc_mono {vs : List Nat} (hi : PIt X S0 H0 tg iter fi) (m1 : ∀ ρ S Q Q', (∀ p S', Q p S' → Q' p S') → tt ρ S Q → tt ρ S Q') (m2 : ∀ ρ S Q Q', (∀ p S', Q p S' → Q' p S') → te ρ S Q → te ρ S Q') : ∀ ρ S Q Q', (∀ p S', Q p S' → Q' p S') → fLc fi t tt te vs ρ S Q → fLc fi t tt te vs ρ S Q' :=
  fun ρ S Q Q' i q => hi.mono _ _ _ _ (fun its gd S1 q D hD => lcW_mono m1 m2 (fun _ _ q => i _ _ q) its [] S1 (q D hD)) q
abbrev Blk (X : Cx) (scope : Scope) (P : Cx → Prop) : Prop := ∀ (s : Shared) (H : Hp) (C : Addr) (cl : List (Str × Addr)) (fp : List Addr), P (X.blk s H scope (compEnvC scope cl C X.env) fp)
theorem pv_lc (own : List (Str × Nat)) (hc : X.calm = true) (hN : X.N.Nodup) (hi : PIt X S0 H0 tg iter fi) (ok : BlkOk X.N X.env.scope scope own) (hg : Blk X scope fun Y => PG Y tg (tgR X.K t)) (ht : Blk X scope fun Y => PBs Y S0 H0 ifs tt) (he : Blk X scope fun Y => PV Y S0 H0 elt te)
    (hv : ∀ i ∈ slotsT t, i ∈ own.map (·.2) := by decide) (hs : ∀ x, foldedSetIterable iter X.env x = pure x := by intro _; rfl) : PV X S0 H0 (.ListComp elt [⟨tg, iter, ifs, 0⟩] scope pos) (fLc fi t tt te (own.map (·.2))) := by
  have m1 := (ht X.s_0 X.H_0 0 [] []).mono
  have m2 := (he X.s_0 X.H_0 0 [] []).mono
  refine ⟨fLc_mono hi m1 m2, PE.imp (pe_lc (te := lift X.K S0 H0 te) (tt := liftB X.K S0 H0 tt) hc hN hi.pi ok hg (fun s H C cl fp => (ht s H C cl fp).pts) (fun s H C cl fp => (he s H C cl fp).pe) hs) fun σ H Q ⟨ρ, S, re, rs, ex, q⟩ => ?_⟩
  exact lc_sim hi hv m1 m2 re rs ex q fun D acc S' H' g hn rs' e' => lc_fin (G := fun p S' => ∀ v H', RepV X.K H' S' p v → RepS X.K H' S' → Ext S H S' H' → Q v H') g hn rs' e' fun p S' h => h
theorem pz_setLc (i : Nat) {y : Str} {py spos : Pos} (own : List (Str × Nat)) (hc : X.calm = true) (hN : X.N.Nodup) (hi : PIt X S0 H0 tg iter fi) (ok : BlkOk X.N X.env.scope scope own) (hg : Blk X scope fun Y => PG Y tg (tgR X.K t)) (ht : Blk X scope fun Y => PBs Y S0 H0 ifs tt) (he : Blk X scope fun Y => PV Y S0 H0 elt te)
    (hsw : swapsWith (.ListComp elt [⟨tg, iter, ifs, 0⟩] scope pos) (some (.Name y py)) spos.line X.env = pure true)
    (hy : X.N[i]? = some y := by rfl) (hyl : X.env.scope.names.lookup y = some .local := by rfl) (hv : ∀ i ∈ slotsT t, i ∈ own.map (·.2) := by decide) (hs : ∀ x, foldedSetIterable iter X.env x = pure x := by intro _; rfl) : PZ X S0 H0 (.Assign [.Name y py] (.ListComp elt [⟨tg, iter, ifs, 0⟩] scope pos) spos) (gSet i (fLc fi t tt te (own.map (·.2)))) := by
  have m1 := (ht X.s_0 X.H_0 0 [] []).mono
  have m2 := (he X.s_0 X.H_0 0 [] []).mono
  refine ⟨fun D D' ρ S l q => fLc_mono hi m1 m2 _ _ _ _ (fun _ _ q => l.1 _ _ q) q, PS.imp (ps_setLc (te := lift X.K S0 H0 te) (tt := liftB X.K S0 H0 tt) hc hN hy hyl hsw hi.pi ok hg (fun s H C cl fp => (ht s H C cl fp).pts) (fun s H C cl fp => (he s H C cl fp).pe) hs) fun D σ H ⟨ρ, S, re, rs, ex, q⟩ => ?_⟩
  refine lc_sim hi hv m1 m2 re rs ex q fun L acc S' H' g hn rs' e' => ?_
  exact lc_fin (Q := fun x H1 => gName i x σ H1 D.nx) (G := fun p S' => (lE X.K S H D).nx (ρ.set i (some p)) S') g hn rs' e' fun p S' h v H' a1 a2 a3 => h _ H' ((re.ext rs a3).set i a1) a2 a3
@[irreducible] def oAppend (x : Pv) (ps : List Pv) (S : Sto) (Q : QV) : Prop := match x, ps with
  | .ref a, [p] => (match S a with
    | some (.lst xs) => xs.length < sizeLine ∧ Q .non (put S a (.lst (xs ++ [p])))
    | _ => False)
  | _, _ => False
def fMeth (ck : Sto → Pv → Bool) (o : Pv → List Pv → Sto → QV → Prop) (fa : PF) (fs : PFs) : PF := fun ρ S Q => fa ρ S fun x S1 => ck S1 x = true ∧ fs ρ S1 fun ps S2 => o x ps S2 Q
def ckL (S : Sto) (x : Pv) : Bool := (rdL S x).isSome
theorem ckL_ty {K : PySem.W.Frag} {H : Hp} {S : Sto} (rs : RepS K H S) {x : Pv} {v : V} (r : RepV K H S x v) (h : ckL S x = true) : tyV K "list" v H := by
  unfold ckL at h
  obtain ⟨xs, e⟩ := Option.isSome_iff_exists.mp h
  obtain ⟨a, vs, rfl, hq, _⟩ := rdL_rep rs r e
  exact .inl ⟨rfl, vs, hq⟩
theorem fMeth_mono {ck : Sto → Pv → Bool} {o : Pv → List Pv → Sto → QV → Prop} {es : List Expr} {fs : PFs} (m : ∀ x ps S Q Q', (∀ p S', Q p S' → Q' p S') → o x ps S Q → o x ps S Q') (ha : PV X S0 H0 a fa) (hb : PVs X S0 H0 es fs) : ∀ ρ S Q Q', (∀ p S', Q p S' → Q' p S') → fMeth ck o fa fs ρ S Q → fMeth ck o fa fs ρ S Q' :=
  fun ρ S Q Q' i q => ha.mono _ _ _ _ (fun x S1 q => ⟨q.1, hb.mono _ _ _ _ (fun ps S2 q => m _ _ _ _ _ i q) q.2⟩) q
theorem lift_meth {T : String} {ck : Sto → Pv → Bool} {o : Pv → List Pv → Sto → QV → Prop} {r : V → List V → Hp → VK → Prop} {es : List Expr} {fs : PFs} (hck : ∀ (S : Sto) (x : Pv) (v : V) (H : Hp), RepS X.K H S → RepV X.K H S x v → ck S x = true → tyV X.K T v H)
    (ho : ∀ x ps S Qp v vs H Q, RepV X.K H S x v → RepVs X.K H S ps vs → RepS X.K H S → o x ps S Qp → (∀ p S' z H', Qp p S' → RepV X.K H' S' p z → RepS X.K H' S' → Ext S H S' H' → Q z H') → r v vs H Q) (ha : PV X S0 H0 a fa) (hb : PVs X S0 H0 es fs) {σ : L2.St} {H : Hp} {Q : VK} (h : lift X.K S0 H0 (fMeth ck o fa fs) σ H Q) :
    tBM X.K T r (lift X.K S0 H0 fa) (liftA X.K S0 H0 fs) σ H Q := by
  obtain ⟨ρ, S, re, rs, ex, q⟩ := h
  refine ⟨ρ, S, re, rs, ex, ha.mono _ _ _ _ (fun x S1 q v H1 rv rs1 ex1 => ⟨hck S1 x v H1 rs1 rv q.1, ?_⟩) q⟩
  refine ⟨ρ, S1, re.ext rs ex1, rs1, ex.trans ex1, hb.mono _ _ _ _ (fun ps S2 q vs H2 rvs rs2 ex2 => ?_) q.2⟩
  exact ho x ps S2 _ v vs H2 Q (RepV.ext rs1 ex2 x v rv) rvs rs2 q fun p S' z H' q rz rs' ex' => q z H' rz rs' ((ex1.trans ex2).trans ex')
theorem pv_append {e : Expr} {fs : PFs} {apos cpos : Pos} (ha : PV X S0 H0 a fa) (hb : PVs X S0 H0 [e] fs) (hbase : attributeBase a "append" X.env (eval a X.env) = eval a X.env := by rfl)
    (hfew : ((backTo cpos (starEach [e] X.env)).all (fun x => !x.1) && (backToKw cpos (keywordEach [] X.env)).all (fun x => x.1.isSome) && decide ([e].length + ([] : List Keyword).length + (if ([] : List Keyword).isEmpty then 0 else 1) < 30)) = true := by rfl)
    (hline : (apos.endLine == cpos.line) = true := by rfl) (hs : starEach [e] X.env = (false, eval e X.env) :: starEach [] X.env := by rfl) (hplain : (backTo cpos (starEach [] X.env)).any (·.1) = false := by rfl) :
    PV X S0 H0 (.Call (.Attribute a "append" apos) [e] [] cpos) (fMeth ckL oAppend fa fs) := by
  have m : ∀ x ps S Q Q', (∀ p S', Q p S' → Q' p S') → oAppend x ps S Q → oAppend x ps S Q' := fun x ps S Q Q' i q => by
    unfold oAppend at q ⊢
    split at q
    · split at q
      · exact ⟨q.1, i _ _ q.2⟩
      · exact q
    · exact q
  refine ⟨fMeth_mono m ha hb, PE.imp (pe_bm PySem.F.plainAttrs_list PySem.F.slot_list_append PySem.F.type_list_append mt_append ha.pe hb.pa hbase hfew hline hs hplain) fun σ H Q h => lift_meth (fun S x v H rs r h => ckL_ty rs r h) (fun x ps S Qp v vs H Q rv rvs rs h k => ?_) ha hb h⟩
  unfold oAppend at h
  split at h
  · split at h
    · rename_i xs e
      obtain ⟨us, hu, ru⟩ := rs _ _ e
      obtain ⟨pv, rfl, rp⟩ := rvs.one
      exact ⟨_, us, pv, rv, rfl, hu, by rw [ru.len]; exact h.1, k _ _ _ _ h.2 rfl (rs.chg e (ru.app ⟨pv, [], rfl, rp, rfl⟩)) (Ext.chg e)⟩
    · exact h.elim
  · exact h.elim
@[irreducible] def oSetIx (x y p : Pv) (S : Sto) (Q : Sto → Prop) : Prop := match x, y with
  | .ref a, .int i => (match S a with
    | some (.lst xs) => (match ixN xs.length i with | some j => Q (put S a (.lst (xs.set j p))) | none => False)
    | _ => False)
  | _, _ => False
def gSetIx (fe fo fi : PF) : PFS := fun D ρ S => fe ρ S fun p S1 => fo ρ S1 fun x S2 => fi ρ S2 fun y S3 => oSetIx x y p S3 fun S4 => D.nx ρ S4
theorem pz_setIx {o i e : Expr} {fe fo fi : PF} {pos2 : Pos} (he : PV X S0 H0 e fe) (ho : PV X S0 H0 o fo) (hi : PV X S0 H0 i fi)
    (ha : ∀ v, assign (.Subscript o i pos2) X.env v = (do
      let ov ← holding [v] (eval o X.env)
      let iv ← holding [v, ov] (eval i X.env)
      standAt pos2
      holding [v, ov, iv] (setItem ov iv v)
      release [v, ov, iv] []) := by intro _; rfl) (hs : swapsWithSole [.Subscript o i pos2] e pos.line X.env = pure false := by rfl) (hw : swappedStores [.Subscript o i pos2] e X.env = pure none := by rfl)
    (h1 : (assignEach [.Subscript o i pos2] X.env).map (·.2) = [assign (.Subscript o i pos2) X.env] := by rfl) : PZ X S0 H0 (.Assign [.Subscript o i pos2] e pos) (gSetIx fe fo fi) := by
  have m : ∀ x y p S (Q Q' : Sto → Prop), (∀ S', Q S' → Q' S') → oSetIx x y p S Q → oSetIx x y p S Q' := fun x y p S Q Q' i q => by
    unfold oSetIx at q ⊢
    split at q
    · split at q
      · split at q
        · exact i _ q
        · exact q
      · exact q
    · exact q
  refine ⟨fun D D' ρ S l q => he.mono _ _ _ _ (fun p S1 q => ho.mono _ _ _ _ (fun x S2 q => hi.mono _ _ _ _ (fun y S3 q => m _ _ _ _ _ _ (fun S4 q => l.1 _ _ q) q) q) q) q, PS.imp (ps_asg he.pe (pg_sub ho.pe hi.pe set_list ha) hs hw h1) fun D σ H ⟨ρ, S, re, rs, ex, q⟩ => ?_⟩
  refine ⟨ρ, S, re, rs, ex, he.mono _ _ _ _ (fun p S1 q v H1 rv rs1 ex1 => ?_) q⟩
  refine ⟨ρ, S1, re.ext rs ex1, rs1, ex.trans ex1, ho.mono _ _ _ _ (fun x S2 q xv H2 rx rs2 ex2 => ?_) q⟩
  have e2 := ex1.trans ex2
  refine ⟨ρ, S2, re.ext rs e2, rs2, ex.trans e2, hi.mono _ _ _ _ (fun y S3 q yv H3 ry rs3 ex3 => ?_) q⟩
  have e3 := e2.trans ex3
  unfold oSetIx at q
  split at q
  · split at q
    · rename_i xs e
      split at q
      · rename_i j ej
        obtain ⟨us, hu, ru⟩ := rs3 _ _ e
        have rv3 := RepV.ext rs1 (ex2.trans ex3) p v rv
        have rsn := rs3.chg e (ru.set j rv3)
        have en := e3.trans (Ext.chg (H := H3) (m' := .lst (xs.set j p)) (o := .lst (us.set j v)) e)
        exact ⟨_, us, _, j, rx, ry, hu, by rw [ru.len]; exact ej, q σ _ (re.ext rs en) rsn en⟩
      · exact q.elim
    · exact q.elim
  · exact q.elim
end
end PL

namespace PL
open PySem PySem.Spec PyProof.Rows L2

abbrev QE := Str → Sto → Prop
abbrev PSp := List Pv → Sto → QV → QE → Prop
def liftSp (K : PySem.W.Frag) (mg : Str → Option Value) (psp : PSp) : Sp := fun vs H Q E => ∃ ps S, RepVs K H S ps vs ∧ RepS K H S ∧
  psp ps S (fun p S' => ∀ v H', RepV K H' S' p v → RepS K H' S' → Ext S H S' H' → Q v H') fun c S' => ∀ C H', mg c = some (.ref C) → RepS K H' S' → Ext S H S' H' → E (.ref C) none H'
structure FnG (P : Program) (w : World) (K : PySem.W.Frag) (mg : Str → Option Value) (base : Heap) (k : Nat) (f : Addr) (fd : FuncData) (ps : List Str) (psp : PSp) : Prop where
  len : ∀ xs S Q E, psp xs S Q E → xs.length = ps.length
  mono : ∀ xs S (Q Q' : QV) (E E' : QE), (∀ p S', Q p S' → Q' p S') → (∀ C S', E C S' → E' C S') → psp xs S Q E → psp xs S Q' E'
  run : ∀ (A : Around) (outer : List Env) (s : Shared) (H : Hp) (args : Args) (us : List Value) (vs : List V) (Q : VK) (E : XK), Room k A → A.guards = some [] → Env0 P w K mg base A outer s H → BindsTo s fd args (ps.zip us) → Vals vs us →
    liftSp K mg psp vs H Q E → codeAny (model P w) A (.call (.ref f) args) (CR (L2.CX P w) outer P w H s Q E) s
theorem FnG.up {P : Program} {w : World} {K : PySem.W.Frag} {mg : Str → Option Value} {base : Heap} {j k : Nat} {f : Addr} {fd : FuncData} {ps : List Str} {psp : PSp} (F : FnG P w K mg base j f fd ps psp) (h : j ≤ k) : FnG P w K mg base k f fd ps psp :=
  ⟨F.len, F.mono, fun A o s H ar us vs Q E hr => F.run A o s H ar us vs Q E (hr.mono h)⟩

structure Wkn (p : Pv) (S : Sto) (p' : Pv) (S' : Sto) : Prop where
  sub : Sub S' S
  rep : ∀ (K : PySem.W.Frag) (H : Hp) (v : V), RepS K H S → RepV K H S p v → RepV K H S' p' v
theorem Wkn.refl (p : Pv) (S : Sto) : Wkn p S p S := ⟨Sub.refl S, fun _ _ _ _ h => h⟩
theorem Wkn.less {p : Pv} {S S' : Sto} (h : Sub S' S) : Wkn p S p S' := ⟨h, fun _ _ _ _ r => r.sub h⟩
theorem Wkn.frz {a : Addr} {S : Sto} {xs : List Pv} (h : S a = some (.lst xs)) : Wkn (.ref a) S (.lst xs) (del S a) := ⟨Sub.del, fun K H v rs r => by
  obtain ⟨vs, e, rv⟩ := rs a _ h
  have e1 : v = .ref a := r
  exact ⟨a, vs, e1, e, by simp, rv.sub Sub.del⟩⟩
theorem Wkn.trans {p p1 p2 : Pv} {S S1 S2 : Sto} (a : Wkn p S p1 S1) (b : Wkn p1 S1 p2 S2) : Wkn p S p2 S2 := ⟨b.sub.trans a.sub, fun K H v rs r => b.rep K H v (rs.sub a.sub) (a.rep K H v rs r)⟩
def Out (Q : QV) (p : Pv) (S : Sto) : Prop := ∃ p' S', Wkn p S p' S' ∧ Q p' S'
theorem Out.id {Q : QV} {p : Pv} {S : Sto} (h : Q p S) : Out Q p S := ⟨p, S, Wkn.refl p S, h⟩
theorem Out.less {Q : QV} {p : Pv} {S S' : Sto} (h : Sub S' S) (q : Q p S') : Out Q p S := ⟨p, S', Wkn.less h, q⟩
theorem Out.frz {Q : QV} {a : Addr} {S S' : Sto} {xs : List Pv} (h : S a = some (.lst xs)) (h2 : Sub S' (del S a)) (q : Q (.lst xs) S') : Out Q (.ref a) S := ⟨.lst xs, S', (Wkn.frz h).trans (Wkn.less h2), q⟩
def OutE (E : QE) (C : Str) (S : Sto) : Prop := ∃ S', Sub S' S ∧ E C S'
def st0 (n : Nat) (ps : List Pv) : Env' := ps.map some ++ List.replicate (n - ps.length) none
theorem rep_st0 {K : PySem.W.Frag} {H : Hp} {S : Sto} {N : List Str} {ps : List Pv} {vs : List V} (r : RepVs K H S ps vs) : RepE K H S (L2.start N vs) (st0 N.length ps) := by
  unfold L2.start st0
  refine ⟨by simp [r.len], fun i p e => ?_⟩
  by_cases hi : i < ps.length
  · rw [List.getElem?_append_left (by simpa using hi), List.getElem?_map, Option.map_eq_some_iff] at e
    obtain ⟨q, e1, e2⟩ := e
    cases e2
    obtain ⟨v, h1, h2⟩ := r.get e1
    exact ⟨v, by rw [List.getElem?_append_left (by simpa [r.len] using hi), List.getElem?_map, h1]; rfl, h2⟩
  · rw [List.getElem?_append_right (by simpa using hi), List.getElem?_replicate] at e
    split at e <;> cases e
structure FunV (K : PySem.W.Frag) (x qual : Str) (st : Stmt) (dV : Value) (f : Addr) (fd : FuncData) : Prop where
  ex : ∃ (oc : Value) (od : Option Addr) (kV doc pm : Value) (an : Option Addr) (cdv ct : Value) (osl : Array (Option Value)),
    fd = PySem.W.fnOf x qual (defArgs st) (defBody st) (defScope st) dV kV doc pm an cdv ct ∧ K.lookup f = some ⟨oc, od, .func fd, osl⟩ ∧ PySem.W.codeIn K cdv qual = true
  kp : PySem.W.keepIn K (.ref f) = true
theorem funV_mk {K : PySem.W.Frag} {x qual : Str} {st : Stmt} {f : Addr} {oc : Value} {od : Option Addr} {dV kV doc pm : Value} {an : Option Addr} {cdv ct : Value} {osl : Array (Option Value)}
    (l : K.lookup f = some ⟨oc, od, .func (PySem.W.fnOf x qual (defArgs st) (defBody st) (defScope st) dV kV doc pm an cdv ct), osl⟩) (c : PySem.W.codeIn K cdv qual = true) (k : PySem.W.keepIn K (.ref f) = true) :
    FunV K x qual st dV f (PySem.W.fnOf x qual (defArgs st) (defBody st) (defScope st) dV kV doc pm an cdv ct) := ⟨⟨oc, od, kV, doc, pm, an, cdv, ct, osl, rfl, l, c⟩, k⟩
theorem FunV.binds {K : PySem.W.Frag} {x qual : Str} {st : Stmt} {dV : Value} {f : Addr} {fd : FuncData} {ps : List Str} (F : FunV K x qual st dV f fd)
    (h : ∀ (kV doc pm : Value) (an : Option Addr) (cdv ct : Value) (us : List Value), us.length = ps.length → bindArgs (PySem.W.fnOf x qual (defArgs st) (defBody st) (defScope st) dV kV doc pm an cdv ct) ⟨us, []⟩ = pure (ps.zip us)) : Binds K fd ps [] := by
  obtain ⟨oc, od, kV, doc, pm, an, cdv, ct, osl, rfl, lk, hcd⟩ := F.ex
  exact .all (h kV doc pm an cdv ct)
theorem FunV.bindsD {K : PySem.W.Frag} {x qual : Str} {st : Stmt} {T : Addr} {f : Addr} {fd : FuncData} {ps : List Str} {o : Obj} {its : List Value} {m : Nat} (F : FunV K x qual st (.ref T) f fd) (lT : K.lookup T = some o) (oT : o.data = .seq its.toArray m) (n j : Nat) (hn : n + (its.length - j) = ps.length)
    (h : ∀ (kV doc pm : Value) (an : Option Addr) (cdv ct : Value) (us : List Value), us.length = n →
      ∃ k, bindArgs (PySem.W.fnOf x qual (defArgs st) (defBody st) (defScope st) (.ref T) kV doc pm an cdv ct) ⟨us, []⟩ = seqItems? (.ref T) >>= k ∧ k (some its.toArray) = pure (ps.zip (us ++ its.drop j))) : Binds K fd ps (its.drop j) := by
  obtain ⟨oc, od, kV, doc, pm, an, cdv, ct, osl, rfl, lk, hcd⟩ := F.ex
  intro s us X hlen
  have l2 : us.length = n := by
    rw [List.length_append, List.length_drop] at hlen
    omega
  obtain ⟨k, e1, e2⟩ := h kV doc pm an cdv ct us l2
  refine BindsTo.of_looks fun M => ?_
  rw [e1]
  exact looks_items X lT oT (.of_pure e2)
section
variable {P : Program} {w : World} {K : PySem.W.Frag} {mg : Str → Option Value} {base : Heap}
theorem fng_never {f : Addr} {fd : FuncData} {ps : List Str} {k : Nat} : FnG P w K mg base k f fd ps (fun _ _ _ _ => False) :=
  ⟨fun _ _ _ _ h => h.elim, fun _ _ _ _ _ _ _ _ h => h, fun A outer s H args us vs Q E hr hgu e0 hb rv hsp => by
    obtain ⟨_, _, _, _, h⟩ := hsp
    exact h.elim⟩
theorem okG {x qual : Str} {st : Stmt} {f : Addr} {fd : FuncData} {N ps : List Str} {k : Nat} {psp : PSp} {dV : Value} (F : FunV K x qual st dV f fd) (Sc : FnScope N ps (defScope st)) (len : ∀ xs S Q E, psp xs S Q E → xs.length = ps.length)
    (mono : ∀ xs S (Q Q' : QV) (E E' : QE), (∀ p S', Q p S' → Q' p S') → (∀ C S', E C S' → E' C S') → psp xs S Q E → psp xs S Q' E')
    (body : ∀ (cdv : Value) (A : Around) (outer : List Env) (s : Shared) (S0 : Sto) (H0 : Hp) (E : XK) (Q : QV) (Ep : QE) (xs : List Pv),
      let X := cxOf (L2.CX P w) P w K mg base N qual (defScope st) f cdv A outer s H0 E
      Room k X.A → X.A.guards = some [] → (∀ c C S' H', OutE Ep c S' → mg c = some (.ref C) → RepS K H' S' → Ext S0 H0 S' H' → E (.ref C) none H') → psp xs S0 Q Ep →
      ∃ g, PZs X S0 H0 (defBody st) g ∧ g { nx := fun _ S => Out Q .non S, rt := Out Q } (st0 N.length xs) S0) : FnG P w K mg base (k + 1) f fd ps psp := by
  obtain ⟨oc, od, kV, doc, pm, an, cdv, ct, osl, rfl, lk, hcd⟩ := F.ex
  refine ⟨len, mono, fun A outer s H args us vs Q E hr hgu e0 hb rv hsp => ?_⟩
  obtain ⟨xs, S, rvs, rs, hq⟩ := hsp
  have hl : vs.length = ps.length := by rw [rvs.len]; exact len _ _ _ _ hq
  have kin : K.In s.heap := e0.mod.kin.keeps fun c o e => (e0.bs c o e).1
  have nl : s.heap.NoLimit := e0.mod.nolimit.keeps fun c o e => (e0.bs c o e).1
  have par : ∀ y ∈ ps.zip us, (defScope st).names.lookup y.1 = some .local ∨ ((defScope st).names.lookup y.1 = some .cell ∧ ((cellsFrom (s.heap.objs.size + 1) (defScope st).names []).lookup y.1).isSome = true) := fun ⟨n, v⟩ hy =>
    (Sc.par n (List.of_mem_zip hy).1).elim .inl fun q => .inr ⟨q, PySem.W.cellsFrom_some _ _ _ (.inl q)⟩
  refine codeAny_call_function hr.depth (kin _ _ lk) rfl Sc.co Sc.gen rfl (PySem.W.codeRec_of kin hcd) (hb _ _ _ _ (wpAny_newFunctionEnv_cells Sc.kind par fun env he s1 inc => ?_))
  subst he
  refine ⟨nl.keeps inc.toInCall.keep, codeAny_func ?_⟩
  obtain ⟨g, hg, hw⟩ := body cdv A outer s S H E (fun p S' => ∀ v H', RepV K H' S' p v → RepS K H' S' → Ext S H S' H' → Q v H') (fun c S' => ∀ C H', mg c = some (.ref C) → RepS K H' S' → Ext S H S' H' → E (.ref C) none H') xs (hr.deeper _) hgu
    (fun c C S' H' ⟨S2, sb, q⟩ hm r2 e2 => q C H' hm (r2.sub sb) (e2.sub sb)) hq
  have J0 : Inv (cxOf (L2.CX P w) P w K mg base N qual (defScope st) f cdv A outer s H E) [] (L2.start N vs) H s1 := inv_start Sc hr.hd e0 hl rv inc
  have hlift : liftS K S H g { nx := fun _ H' => Q .non H', rt := Q } (L2.start N vs) H := by
    refine ⟨st0 N.length xs, S, rep_st0 rvs, rs, Ext.refl S H, hg.mono { nx := fun _ S => Out _ .non S, rt := Out _ } _ _ _ ⟨?_, ?_, ?_, ?_⟩ hw⟩
    · rintro ρ S1 ⟨p', S2, wk, q⟩ σ' H' a1 a2 a3
      exact q .non H' (wk.rep K H' .non a2 rfl) (a2.sub wk.sub) (a3.sub wk.sub)
    · rintro p S1 ⟨p', S2, wk, q⟩ v H' a1 a2 a3
      exact q v H' (wk.rep K H' v a2 a1) (a2.sub wk.sub) (a3.sub wk.sub)
    · intro _ _ h; exact h.elim
    · intro _ _ h; exact h.elim
  refine wpAny_mono (hg.pss.run [] s1 (L2.start N vs) H _ J0 hlift) (fun fl s2 hs => ?_) fun e s2 hs => hs
  have done : ∀ {σ2 : L2.St} {H2 : Hp} {v : V} {u : Value}, Inv (cxOf (L2.CX P w) P w K mg base N qual (defScope st) f cdv A outer s H E) [] σ2 H2 s2 → RelV v u → Q v H2 → CE outer P w H s Q u s2 := fun {_ H2 v _} J r q => ⟨v, H2, J.os, J.bare, J.base, J.hok, r, q⟩
  cases fl with
  | ret u => obtain ⟨v, _, _, J, r, q⟩ := hs; exact done J r q
  | next => obtain ⟨_, _, J, q⟩ := hs; exact done (v := V.non) (u := Value.none) J rfl q
  | brk => obtain ⟨_, _, _, q⟩ := hs; exact q.elim
  | cont => obtain ⟨_, _, _, q⟩ := hs; exact q.elim
end

section
variable {X : Cx} {S0 : Sto} {H0 : Hp} {a b : Expr} {fa fb : PF} {pos p : Pos} {e : Expr} {es : List Expr} {fs : PFs} {k : Nat} {f : Addr} {fd : FuncData} {ps : List Str} {psp : PSp} {x : Str}
theorem runG {pins : List (Addr × Obj)} {σ : L2.St} {H : Hp} {s : Shared} {Q : VK} {us ds : List Value} {vs dvs : List V} {E : XK} (F : FnG X.prog X.w X.K X.mg X.base k f fd ps psp) (hr : Room k X.A) (hgu : X.A.guards = some []) (hb : Binds X.K fd ps ds) (hd : Vals dvs ds) (hx : Passes (L2.CX X.prog X.w) X E) (I : Inv X pins σ H s) (r : Vals vs us)
    (h : liftSp X.K X.mg psp (vs ++ dvs) H Q E) : wpAny (model X.prog X.w) X.A (call (.ref f) us) (EP X pins σ Q) X.xe s := by
  have r2 : Vals (vs ++ dvs) (us ++ ds) := r.append hd
  have hl : (us ++ ds).length = ps.length := by
    obtain ⟨xs, S, rv, _, q⟩ := h
    rw [← r2.length, rv.len]
    exact F.len _ _ _ _ q
  refine wpAny_call (codeAny_mono (F.run X.A X.stack s H ⟨us, []⟩ _ _ Q E hr hgu I.env0 (hb s us I.kIn hl) r2 h) fun res s2 hq => ?_)
  cases res with
  | error er => exact hx pins σ H s er s2 I hq
  | ok fl =>
    cases fl with
    | ret u => exact I.after hq
    | _ => exact False.elim hq
def fCall (psp : PSp) (dps : List Pv) (Ep : QE) (fs : PFs) : PF := fun ρ S Q => fs ρ S fun xs S1 => psp (xs ++ dps) S1 Q Ep
abbrev noE : QE := fun _ _ => False
theorem pv_callG {dps : List Pv} {dvs : List V} {ds : List Value} {E : XK} {Ep : QE} (F : FnG X.prog X.w X.K X.mg X.base k f fd ps psp) (hr : Room k X.A) (hgu : X.A.guards = some []) (hm : X.mg x = some (.ref f)) (hk : PySem.W.keepIn X.K (.ref f) = true) (hb : Binds X.K fd ps ds) (hd : Vals dvs ds) (hdr : ∀ H S, RepVs X.K H S dps dvs)
    (hx : Passes (L2.CX X.prog X.w) X E) (hE : ∀ c C S' H', Ep c S' → X.mg c = some (.ref C) → RepS X.K H' S' → Ext S0 H0 S' H' → E (.ref C) none H') (ha : PVs X S0 H0 (e :: es) fs) (hg : Gl X x := by rfl) (hdb : (x == ("__debug__" : Str)) = false := by decide)
    (he : starEach (e :: es) X.env = (false, eval e X.env) :: starEach es X.env := by rfl) (hpl : (backTo pos (starEach es X.env)).any (·.1) = false := by rfl) : PV X S0 H0 (.Call (.Name x p) (e :: es) [] pos) (fCall psp dps Ep fs) := by
  refine ⟨fun ρ S Q Q' i q => ha.mono _ _ _ _ (fun xs S1 q => F.mono _ _ _ _ _ _ i (fun _ _ h => h) q) q, ⟨fun pins s σ H Q I h => ?_⟩⟩
  obtain ⟨ρ, S, re, rs, ex, q⟩ := h
  refine wpAny_Call_Name_kw (ld_glob I hg hm ?_ hdb)
  refine PySem.W.callWith_K (h₀ := X.base) I.ok.mod.kin hk (thn (ha.pa.run pos pins s σ H (fun vs H1 => liftSp X.K X.mg psp (vs ++ dvs) H1 Q E) I ?_) fun us s1 ⟨vs, H1, I1, r1, q1⟩ => ⟨I1.kIn, ?_⟩) he hpl
  · refine ⟨ρ, S, re, rs, ex, ha.mono _ _ _ _ (fun xs S1 q vs H1 rv rs1 ex1 => ?_) q⟩
    exact ⟨xs ++ dps, S1, rv.app (hdr H1 S1), rs1, F.mono _ _ _ _ _ _ (fun p S' q v H' a1 a2 a3 => q v H' a1 a2 (ex1.trans a3)) (fun c S' h C H' hm a1 a2 => hE c C S' H' h hm a1 ((ex.trans ex1).trans a2)) q⟩
  · exact runG F hr hgu hb hd hx I1 r1 q1
theorem pv_call {dps : List Pv} {dvs : List V} {ds : List Value} (F : FnG X.prog X.w X.K X.mg X.base k f fd ps psp) (hr : Room k X.A) (hgu : X.A.guards = some []) (hm : X.mg x = some (.ref f)) (hk : PySem.W.keepIn X.K (.ref f) = true) (hb : Binds X.K fd ps ds) (hd : Vals dvs ds) (hdr : ∀ H S, RepVs X.K H S dps dvs)
    (ha : PVs X S0 H0 (e :: es) fs) (hg : Gl X x := by rfl) (hdb : (x == ("__debug__" : Str)) = false := by decide)
    (he : starEach (e :: es) X.env = (false, eval e X.env) :: starEach es X.env := by rfl) (hpl : (backTo pos (starEach es X.env)).any (·.1) = false := by rfl) : PV X S0 H0 (.Call (.Name x p) (e :: es) [] pos) (fCall psp dps noE fs) :=
  pv_callG F hr hgu hm hk hb hd hdr passL (fun _ _ _ _ h _ => h.elim) ha hg hdb he hpl

end

theorem noCX {P : Program} {w : World} {l : List Env} {H : Hp} {s : Shared} {e : Value} {s' : Shared} (h : L2.CX P w l H s (fun _ _ _ => False) e s') : False := by
  obtain ⟨_, _, _, _, _, _, _, _, _, _, _, _, z⟩ := h
  exact z.elim
theorem lawG {P : Program} {w : World} {K : PySem.W.Frag} {mg mb : Str → Option Value} {k : Nat} {fa a : Addr} {fd : FuncData} {x : Str} {psp : PSp} {s1 : Shared} {us : List Value} {ns : List Int}
    (kin : K.In s1.heap) (hns : s1.heap.Ns mainGlobals mg) (hbl : s1.heap.Ns builtinsNs mb) (hbb : ∀ x : Str, x ≠ "__name__" → mb x = bootBuiltins x) (hlim : s1.heap.NoLimit) (hge : s1.gens = #[])
    (ha : s1.heap.get? a = some { cls := .type "list", data := .seq us.toArray }) (hi : IntsAre us ns) (hl : ns.length ≤ sizeLine) (hr : Room k callerA)
    (F : ∀ base : Heap, K.In base → base.Ns mainGlobals mg → FnG P w K mg base k fa fd [x] psp) (hbind : ∀ (s : Shared) (u : Value), BindsTo s fd ⟨[u], []⟩ [(x, u)])
    (hsp : ∀ Q : QV, (∀ S, Q (.bl true) S) → psp [.scr (ns.map .int)] (fun _ => none) Q noE) :
    codeAny (model P w) callerA (.call (.ref fa) ⟨[.ref a], []⟩) (fun r s' => r = .ok (.ret (.bool true)) ∧ OldK s1.heap s'.heap ∧ s'.os = s1.os ∧ AllBare s'.gens) s1 := by
  have rvl := vals_ints hi
  have repI : ∀ (H : Hp), RepVs K H (fun _ => none) (ns.map Pv.int) (ns.map V.int) := fun H => by
    clear hsp rvl hi hl
    induction ns with
    | nil => exact rfl
    | cons n r ih => exact ⟨_, _, rfl, rfl, ih⟩
  have main : ∀ H : Hp, Only H → ((∃ o, H a = some (.frz o (.lst (ns.map V.int)))) ∨ SqL K (fun _ => none) a (ns.map V.int)) → HOk P w H s1.heap → (∀ c, H c ≠ none → c = a) → (H a ≠ none → K.lookup a = none) →
      codeAny (model P w) callerA (.call (.ref fa) ⟨[.ref a], []⟩) (fun r s' => r = .ok (.ret (.bool true)) ∧ OldK s1.heap s'.heap ∧ s'.os = s1.os ∧ AllBare s'.gens) s1 := by
    intro H hO hS hok hA hK
    have dictFree : ∀ {c : Addr} {o : Obj} {es : Array DictEntry} {ep : Nat}, s1.heap.get? c = some o → o.data = .dict es ep → H c = none := fun {c o es ep} e d => by
      cases q : H c with
      | none => rfl
      | some u =>
        obtain rfl : c = a := hA c (by rw [q]; simp)
        rw [ha] at e; cases e; cases d
    have nsH : ∀ {c : Addr} {m : Str → Option Value}, s1.heap.Ns c m → (hidT s1.heap H).Ns c m := fun {c m} ⟨o, es, ep, e, d, r⟩ => ⟨o, es, ep, hidT_get e (dictFree e d), d, r⟩
    have kb : K.In (hidT s1.heap H) := fun c o e => hidT_get (kin c o e) (by
      cases q : H c with
      | none => rfl
      | some u =>
        obtain rfl : c = a := hA c (by rw [q]; simp)
        rw [hK (by rw [q]; simp)] at e; cases e)
    have md : Mod K mg (hidT s1.heap H) := ⟨kb, nsH hns, ⟨mb, nsH hbl, hbb⟩, hlim.elim fun mc h => ⟨mc, nsH h.1, h.2⟩⟩
    have en : Env0 P w K mg (hidT s1.heap H) callerA [] s1 H := { frames := rfl, mod := md, bs := fun c o e => of_hidT e, bsz := Nat.le_of_eq (hidT_size _ _), funs := trivial, frf := fun c hc => absurd (show c ∈ ([] : List Addr) from hc) (by simp), hok := hok, bare := .of_eq hge }
    have hspL : liftSp K mg psp [.ref a] H (fun v _ => v = .bl true) fun _ _ _ => False := by
      have FF := F _ kb (nsH hns)
      refine ⟨[.scr (ns.map .int)], fun _ => none, ⟨.ref a, [], rfl, ⟨a, ns.map V.int, rfl, hS, repI H⟩, rfl⟩, (fun c m e => nomatch e), ?_⟩
      exact FF.mono _ _ (fun p _ => p = .bl true) _ noE _ (fun p S' e v H' r _ _ => by rw [e] at r; exact r) (fun _ _ h => h.elim) (hsp _ fun _ => rfl)
    refine codeAny_mono ((F _ kb (nsH hns)).run callerA [] s1 H ⟨[.ref a], []⟩ [.ref a] [.ref a] _ _ hr rfl en (hbind s1 (.ref a)) (.cons rfl .nil) hspL) fun res s2 h => ?_
    cases res with
    | error er => exact (noCX h).elim
    | ok fl =>
      cases fl with
      | ret u =>
        obtain ⟨v, H2, os, bare, un, hok2, r2, q⟩ := h
        have q' : v = .bl true := q
        subst q'
        obtain rfl : u = Value.bool true := r2
        refine ⟨rfl, OldK.of_keep fun c o e => ?_, os, bare⟩
        rcases hO c with z | ⟨ob, ys, z⟩
        · exact un.keep c o e z (fun z => absurd (show c ∈ ([] : List Addr) from z) (by simp)) (by simp)
        · obtain ⟨e1, _⟩ := hok c _ z
          obtain ⟨e2, _⟩ := hok2 c _ (un.frzs c ob _ z)
          rw [e] at e1; cases e1
          exact e2
      | _ => exact False.elim h
  cases hk : K.lookup a with
  | some o =>
    have e := kin a o hk
    rw [ha] at e
    cases e
    exact main (fun _ => none) (fun _ => .inl rfl) (.inr (.inr ⟨_, us.toArray, _, hk, rfl, rfl, rfl, by rw [List.size_toArray, hi.length]; exact hl, by simpa using rvl⟩)) (fun c u z => nomatch z) (fun c z => absurd rfl z) fun z => absurd rfl z
  | none =>
    refine main (fun c => if c = a then some (.frz { cls := .type "list", data := .seq us.toArray } (.lst (ns.map V.int))) else none) (fun c => ?_) (.inl ⟨_, if_pos rfl⟩) (fun c u z => ?_) (fun c z => ?_) fun _ => hk
    · by_cases hc : c = a
      · exact .inr ⟨_, _, if_pos hc⟩
      · exact .inl (if_neg hc)
    · by_cases hc : c = a
      · subst hc
        have z' := (if_pos rfl).symm.trans z
        cases z'
        exact ⟨ha, by rw [List.length_map]; exact hl, us, _, rvl, ha⟩
      · have z' := (if_neg hc).symm.trans z
        cases z'
    · exact Decidable.byContradiction fun hc => z (if_neg hc)
theorem walkG {l : PySem.W.OpenLaw} {n k : Nat} {q : Program} {loose : List Str} {XP : (Str → Option Value) → Heap → Prop} {YP : World → Heap → Prop} {d : DefRec} {K : Params → PySem.W.Frag} {psp : World → PSp} {x : Str}
    (hn : l.most = some n) (hn2 : n ≤ sizeLine) (hdf : d.params.defaults = []) (hr : Room k callerA) (hY : ∀ (w : World) (h : Heap), YP w h → (K w.params).In h)
    (F : ∀ (w : World) (mg : Str → Option Value) (fa : Addr) (h : Heap), (K w.params).In h → h.Ns mainGlobals mg → mg d.name = some (.ref fa) →
      ∃ fd : FuncData, (∀ (s : Shared) (u : Value), BindsTo s fd ⟨[u], []⟩ [(x, u)]) ∧ ∀ base : Heap, (K w.params).In base → base.Ns mainGlobals mg → FnG l.prog w (K w.params) mg base k fa fd [x] (psp w))
    (hsp : ∀ (w : World) (ns : List Int) (Q : QV), ns.length ≤ n → (∀ S, Q (.bl true) S) → psp w [.scr (ns.map .int)] (fun _ => none) Q noE) : PySem.W.WalkO q loose XP YP l.row.toRowW d [] (fun f vs => PySem.call f vs) := by
  refine Att.attach_call hn hdf fun w s0 s1 mg mb fa o pm cd doc a vs ns G Y ho hd hcd hmg hobj hints hlen hge => ?_
  obtain ⟨fd, hb, hF⟩ := F w mg fa _ (hY w _ Y) G.T.g hmg
  exact lawG (hY w _ Y) G.T.g G.T.b G.T.builtins G.T.nolimit hge hobj hints (Nat.le_trans hlen hn2) hr hF hb fun Q hQ => hsp w ns Q hlen hQ
end PL

namespace PL
open PySem PySem.Spec PyProof.Rows L2
theorem hu64 {k : Nat} {A : Around} (h : Room k A) : A.units + 64 < cLine := h.units
theorem hu65 {k : Nat} {A : Around} (h : Room k A) : A.units + 65 < cLine := by have := h.un; omega
structure Cal (P : Program) (w : World) (K : PySem.W.Frag) (mg : Str → Option Value) (base : Heap) (k : Nat) (x : Str) (dps : List Pv) (psp : PSp) : Prop where
  ex : ∃ (f : Addr) (fd : FuncData) (ps : List Str) (ds : List Value) (dvs : List V), mg x = some (.ref f) ∧ PySem.W.keepIn K (.ref f) = true ∧ Binds K fd ps ds ∧ Vals dvs ds ∧ (∀ H S, RepVs K H S dps dvs) ∧ FnG P w K mg base k f fd ps psp
section
variable {X : Cx} {S0 : Sto} {H0 : Hp} {pos p : Pos} {e : Expr} {es : List Expr} {fs : PFs} {k : Nat} {psp : PSp} {x : Str} {dps : List Pv}
theorem pv_cal (c : Cal X.prog X.w X.K X.mg X.base k x dps psp) (hr : Room k X.A) (hgu : X.A.guards = some []) (ha : PVs X S0 H0 (e :: es) fs) (hg : Gl X x := by rfl) (hdb : (x == ("__debug__" : Str)) = false := by decide)
    (he : starEach (e :: es) X.env = (false, eval e X.env) :: starEach es X.env := by rfl) (hpl : (backTo pos (starEach es X.env)).any (·.1) = false := by rfl) : PV X S0 H0 (.Call (.Name x p) (e :: es) [] pos) (fCall psp dps noE fs) := by
  obtain ⟨f, fd, ps, ds, dvs, h1, h2, h3, h4, h5, F⟩ := c.ex
  exact pv_call F hr hgu h1 h2 h3 h4 h5 ha hg hdb he hpl
def gNever : PFS := fun _ _ _ => False
theorem pz_never {st : Stmt} : PZ X S0 H0 st gNever := ⟨fun _ _ _ _ _ h => h, PS.imp ps_never fun _ _ _ ⟨_, _, _, _, _, h⟩ => h⟩
theorem pz_par3 (i j l : Nat) {x y z : Str} {a b c : Expr} {px py pz pt pt2 : Pos} {kt k2 : Nat} (hc : X.calm = true) (hN : X.N.Nodup) (hv : PVs X S0 H0 [a, b, c] fs) (hi : X.N[i]? = some x := by rfl) (hj : X.N[j]? = some y := by rfl) (hl : X.N[l]? = some z := by rfl) (hij : i ≠ j := by decide) (hil : i ≠ l := by decide) (hjl : j ≠ l := by decide)
    (hx : X.env.scope.names.lookup x = some .local := by rfl) (hy : X.env.scope.names.lookup y = some .local := by rfl) (hz : X.env.scope.names.lookup z = some .local := by rfl)
    (hw : swappedStores [.Tuple [.Name x px, .Name y py, .Name z pz] kt pt] (.Tuple [a, b, c] k2 pt2) X.env = pure (some [x, y, z]) := by rfl) (hs : swapsWithSole [.Tuple [.Name x px, .Name y py, .Name z pz] kt pt] (.Tuple [a, b, c] k2 pt2) pos.line X.env = pure false := by rfl) :
    PZ X S0 H0 (.Assign [.Tuple [.Name x px, .Name y py, .Name z pz] kt pt] (.Tuple [a, b, c] k2 pt2) pos) (gPar3 i j l fs) := by
  refine ⟨fun D D' ρ S l q => hv.mono _ _ _ _ (fun ps S1 q => ?_) q, PS.imp (ps_par3 hc hN hi hj hl hij hil hjl hx hy hz hv.pa hw hs) fun D σ H ⟨ρ, S, re, rs, ex, q⟩ => ?_⟩
  · split at q
    · exact l.1 _ _ q
    · exact q
  · refine ⟨ρ, S, re, rs, ex, hv.mono _ _ _ _ (fun ps S1 q vs H1 rv rs1 ex1 => ?_) q⟩
    split at q
    · obtain ⟨v, r, e1, r1, r2⟩ := rv
      obtain ⟨v2, v3, rfl, r3, r4⟩ := r2.two
      exact ⟨v, v2, v3, e1, q _ H1 ((((re.ext rs ex1).set i r1).set j r3).set l r4) rs1 ex1⟩
    · exact q.elim
end
def KReps (K : PySem.W.Frag) (ps : List Pv) (us : List Value) : Prop := ∃ vs, Vals vs us ∧ ∀ H S, RepVs K H S ps vs
theorem KReps.nil {K : PySem.W.Frag} : KReps K [] [] := ⟨[], .nil, fun _ _ => rfl⟩
theorem KReps.cons {K : PySem.W.Frag} {p : Pv} {ps : List Pv} {u : Value} {us : List Value} (h : KRep K p u) (h' : KReps K ps us) : KReps K (p :: ps) (u :: us) := by
  obtain ⟨v, r, q⟩ := h
  obtain ⟨vs, rs, qs⟩ := h'
  exact ⟨v :: vs, .cons r rs, fun H S => ⟨v, vs, rfl, q H S, qs H S⟩⟩
theorem KRep.int {K : PySem.W.Frag} {i : Int} {t} : KRep K (.int i) (.int i t) := ⟨.int i, ⟨t, rfl⟩, fun _ _ => rfl⟩
theorem KRep.str {K : PySem.W.Frag} {i : Str} {t} : KRep K (.str i) (.str i t) := ⟨.str i, ⟨t, rfl⟩, fun _ _ => rfl⟩
theorem KRep.bl {K : PySem.W.Frag} {b : Bool} : KRep K (.bl b) (.bool b) := ⟨.bl b, rfl, fun _ _ => rfl⟩
theorem KRep.tup {K : PySem.W.Frag} {a : Addr} {d : Option Addr} {its : Array Value} {n : Nat} {sl : Array (Option Value)} {ps : List Pv} (h : K.lookup a = some ⟨.type "tuple", d, .seq its n, sl⟩) (h' : KReps K ps its.toList) (l : Nat.ble its.size 1000 = true := by rfl) : KRep K (.tup ps) (.ref a) := by
  obtain ⟨vs, rs, qs⟩ := h'
  exact ⟨.ref a, rfl, fun H S => ⟨a, vs, rfl, .inr ⟨_, its, n, h, rfl, rfl, Nat.le_trans (Nat.le_of_ble_eq_true l) (by decide), rs⟩, qs H S⟩⟩
theorem calD {P : Program} {w : World} {K : PySem.W.Frag} {mg : Str → Option Value} {base : Heap} {k : Nat} {x : Str} {dps : List Pv} {psp : PSp} {f : Addr} {fd : FuncData} {ps : List Str} {ds : List Value} (hm : mg x = some (.ref f)) (hk : PySem.W.keepIn K (.ref f) = true) (hb : Binds K fd ps ds) (hd : KReps K dps ds) (G : FnG P w K mg base k f fd ps psp) : Cal P w K mg base k x dps psp := by
  obtain ⟨vs, rs, qs⟩ := hd
  exact ⟨⟨f, fd, ps, ds, vs, hm, hk, hb, rs, qs, G⟩⟩
end PL
namespace PL
open PySem PySem.Spec PyProof.Rows L2
def prm {α : Type} (is : List Nat) (ws : List α) : List α := is.filterMap fun i => ws[i]?
theorem RepVs.prm {K : PySem.W.Frag} {H : Hp} {S : Sto} {ps : List Pv} {vs : List V} (r : RepVs K H S ps vs) : ∀ is : List Nat, RepVs K H S (PL.prm is ps) (PL.prm is vs)
  | [] => rfl
  | i :: is => by
    have ih := RepVs.prm r is
    unfold PL.prm at *
    cases h : ps[i]? with
    | none =>
      have h' : vs[i]? = none := by
        rw [List.getElem?_eq_none_iff] at h ⊢
        rw [r.len]; exact h
      rw [List.filterMap_cons_none h, List.filterMap_cons_none h']
      exact ih
    | some p =>
      obtain ⟨v, h', rv⟩ := r.get h
      rw [List.filterMap_cons_some h, List.filterMap_cons_some h']
      exact ⟨v, _, rfl, rv, ih⟩
theorem Vals.prm {vs : List V} {us : List Value} (r : Vals vs us) : ∀ is : List Nat, Vals (PL.prm is vs) (PL.prm is us)
  | [] => .nil
  | i :: is => by
    have ih := Vals.prm r is
    have g : ∀ {vs : List V} {us : List Value} (i : Nat), Vals vs us → (vs[i]? = none ∧ us[i]? = none) ∨ ∃ v u, vs[i]? = some v ∧ us[i]? = some u ∧ RelV v u := by
      intro vs us i r
      induction r generalizing i with
      | nil => exact .inl ⟨rfl, rfl⟩
      | cons a b ih =>
        cases i with
        | zero => exact .inr ⟨_, _, rfl, rfl, a⟩
        | succ i => simpa using ih i
    unfold PL.prm at *
    rcases g i r with ⟨h, h'⟩ | ⟨v, u, h, h', rv⟩
    · rw [List.filterMap_cons_none h, List.filterMap_cons_none h']; exact ih
    · rw [List.filterMap_cons_some h, List.filterMap_cons_some h']; exact .cons rv ih
structure PKs (X : Cx) (S0 : Sto) (H0 : Hp) (ks : List Keyword) (f : PFs) : Prop where
  mono : ∀ ρ S Q Q', (∀ p S', Q p S' → Q' p S') → f ρ S Q → f ρ S Q'
  pk : PK X ks (liftA X.K S0 H0 f)
theorem PK.imp {X : Cx} {e : List Keyword} {t t' : TA} (h : PK X e t) (i : ∀ σ H Q, t' σ H Q → t σ H Q) : PK X e t' := ⟨fun pos pins s σ H Q I q => h.run pos pins s σ H Q I (i σ H Q q)⟩
section
variable {X : Cx} {S0 : Sto} {H0 : Hp}
theorem pks_nil : PKs X S0 H0 [] fNil := ⟨fun _ _ _ _ h q => h _ _ q, PK.imp pk_nil fun _ H Q ⟨_, S, _, rs, _, q⟩ => q [] H rfl rs (Ext.refl S H)⟩
end
def fCallK (psp : PSp) (n : Nat) (is : List Nat) (Ep : QE) (fs : PFs) : PF := fun ρ S Q => fs ρ S fun xs S1 => xs.length = n ∧ psp (prm is xs) S1 Q Ep
structure CalK (P : Program) (w : World) (K : PySem.W.Frag) (mg : Str → Option Value) (base : Heap) (k : Nat) (x : Str) (ks : List Str) (is : List Nat) (psp : PSp) : Prop where
  ex : ∃ (f : Addr) (fd : FuncData) (ps : List Str), mg x = some (.ref f) ∧ PySem.W.keepIn K (.ref f) = true ∧ (∀ (s : Shared) (ws : List Value), ws.length = ks.length → BindsTo s fd ⟨[], ks.zip ws⟩ (ps.zip (prm is ws))) ∧ FnG P w K mg base k f fd ps psp
theorem kbinds {K : PySem.W.Frag} {x qual : Str} {st : Stmt} {f : Addr} {fd : FuncData} {ps ks : List Str} {is : List Nat} {dV : Value} (F : FunV K x qual st dV f fd)
    (h : ∀ (kV doc pm : Value) (an : Option Addr) (cdv ct : Value) (ws : List Value), ws.length = ks.length → bindArgs (PySem.W.fnOf x qual (defArgs st) (defBody st) (defScope st) dV kV doc pm an cdv ct) ⟨[], ks.zip ws⟩ = pure (ps.zip (prm is ws))) : ∀ (s : Shared) (ws : List Value), ws.length = ks.length → BindsTo s fd ⟨[], ks.zip ws⟩ (ps.zip (prm is ws)) := by
  obtain ⟨oc, od, kV, doc, pm, an, cdv, ct, osl, rfl, lk, hcd⟩ := F.ex
  exact fun s ws hl => .of_eq (h kV doc pm an cdv ct ws hl)
section
variable {X : Cx} {S0 : Sto} {H0 : Hp} {pos p : Pos} {kws : List Keyword} {fs : PFs} {k : Nat} {psp : PSp} {x : Str} {ks : List Str} {is : List Nat}
theorem pv_calK (c : CalK X.prog X.w X.K X.mg X.base k x ks is psp) (hr : Room k X.A) (hgu : X.A.guards = some []) (ha : PKs X S0 H0 kws fs) (hg : Gl X x := by rfl) (hdb : (x == ("__debug__" : Str)) = false := by decide)
    (hall : (backToKw pos (keywordEach kws X.env)).all (·.1.isSome) = true := by rfl) (hks : (backToKw pos (keywordEach kws X.env)).filterMap (·.1) = ks := by rfl)
    (hpl : ((backTo pos (starEach [] X.env)).any (·.1) || (backToKw pos (keywordEach kws X.env)).any (·.1.isNone)) = false := by rfl) : PV X S0 H0 (.Call (.Name x p) [] kws pos) (fCallK psp ks.length is noE fs) := by
  obtain ⟨f, fd, ps, hm, hk, hb, F⟩ := c.ex
  refine ⟨fun ρ S Q Q' i q => ha.mono _ _ _ _ (fun xs S1 q => ⟨q.1, F.mono _ _ _ _ _ _ i (fun _ _ h => h) q.2⟩) q, ⟨fun pins s σ H Q I h => ?_⟩⟩
  obtain ⟨ρ, S, re, rs, ex, q⟩ := h
  refine wpAny_Call_Name_kw (ld_glob I hg hm ?_ hdb)
  refine PySem.W.callWith_KW0 (h₀ := X.base) I.ok.mod.kin hk hall (thn (ha.pk.run pos pins s σ H (fun vs H1 => vs.length = ks.length ∧ liftSp X.K X.mg psp (prm is vs) H1 Q (fun _ _ _ => False)) I ?_) fun us s1 ⟨vs, H1, I1, r1, q1⟩ => ⟨I1.kIn, ?_⟩) hpl
  · refine ⟨ρ, S, re, rs, ex, ha.mono _ _ _ _ (fun xs S1 q vs H1 rv rs1 ex1 => ?_) q⟩
    exact ⟨rv.len.trans q.1, prm is xs, S1, rv.prm is, rs1, F.mono _ _ _ _ _ _ (fun p S' q v H' a1 a2 a3 => q v H' a1 a2 (ex1.trans a3)) (fun _ _ h => h.elim) q.2⟩
  · rw [hks]
    obtain ⟨ql, q1⟩ := q1
    have r2 := Vals.prm r1 is
    refine wpAny_call (codeAny_mono (F.run X.A X.stack s1 H1 ⟨[], ks.zip us⟩ _ _ Q (fun _ _ _ => False) hr hgu I1.env0 (hb s1 us (by rw [← r1.length]; exact ql)) r2 q1) fun res s2 hq => ?_)
    cases res with
    | error er => exact passL pins σ H1 s1 er s2 I1 hq
    | ok fl =>
      cases fl with
      | ret u => exact I1.after hq
      | _ => exact False.elim hq
end
end PL

namespace PL
open PySem PySem.Spec PyProof.Rows L2
def isS : Pv → Bool
  | .str _ => true
  | _ => false
theorem isS_rep {K : PySem.W.Frag} {H : Hp} {S : Sto} {x : Pv} {v : V} (h : isS x = true) (r : RepV K H S x v) : ∃ a, v = .str a := by
  cases x with
  | str a => exact ⟨a, r⟩
  | _ => cases h
def fMs (o : O2) (fa fb : PF) : PF := fun ρ S Q => fa ρ S fun x S1 => isS x = true ∧ fb ρ S1 fun y S2 => o x y S2 Q
section
variable {X : Cx} {S0 : Sto} {H0 : Hp} {a b : Expr} {fa fb : PF} {pos apos : Pos}
theorem pv_m1 {id : String} {name : Str} {r : V → List V → Hp → VK → Prop} {o : O2} (slot : Slot "str" name id) (ty : typeOf (.builtin id) = pure (.type "method_descriptor")) (rule : MtR X id r) (s : Sim2 X.K (fun v u H Q => r v [u] H Q) o) (ha : PV X S0 H0 a fa) (hb : PV X S0 H0 b fb)
    (hs : starEach [b] X.env = [(false, eval b X.env)] := by rfl) (hbase : attributeBase a name X.env (eval a X.env) = eval a X.env := by rfl) (hline : (apos.endLine == pos.line) = true := by rfl) : PV X S0 H0 (.Call (.Attribute a name apos) [b] [] pos) (fMs o fa fb) := by
  refine ⟨fun ρ S Q Q' i q => ha.mono _ _ _ _ (fun x S1 q => ⟨q.1, hb.mono _ _ _ _ (fun y S2 q => s.mono _ _ _ _ _ i q) q.2⟩) q, PE.imp (pe_m1 slot ty rule ha.pe hb.pe hs hbase hline) fun σ H Q ⟨ρ, S, re, rs, ex, q⟩ => ?_⟩
  refine ⟨ρ, S, re, rs, ex, ha.mono _ _ _ _ (fun p S1 q v H1 rv rs1 ex1 => ⟨isS_rep q.1 rv, ?_⟩) q⟩
  refine ⟨ρ, S1, re.ext rs ex1, rs1, ex.trans ex1, hb.mono _ _ _ _ (fun p' S2 q u H2 ru rs2 ex2 => ?_) q.2⟩
  exact s.run p p' S2 _ v u H2 Q (RepV.ext rs1 ex2 p v rv) ru rs2 q fun p' S' z H' q rz rs' ex' => q z H' rz rs' ((ex1.trans ex2).trans ex')
def allS : List Pv → Option (List Str)
  | [] => some []
  | .str z :: ps => (allS ps).map (z :: ·)
  | _ => none
theorem allS_rep {K : PySem.W.Frag} {H : Hp} {S : Sto} : ∀ {ps : List Pv} {vs : List V} {zs : List Str}, RepVs K H S ps vs → allS ps = some zs → vs = zs.map V.str
  | [], vs, zs, r, e => by
    have e1 : vs = [] := r
    cases e
    exact e1
  | .str z :: ps, vs, zs, ⟨v, w, e1, r1, r2⟩, e => by
    simp only [allS, Option.map_eq_some_iff] at e
    obtain ⟨ys, e2, rfl⟩ := e
    rw [e1, show v = _ from r1, allS_rep r2 e2]
    rfl
  | .non :: _, _, _, _, e => by cases e
  | .bl _ :: _, _, _, _, e => by cases e
  | .int _ :: _, _, _, _, e => by cases e
  | .tup _ :: _, _, _, _, e => by cases e
  | .lst _ :: _, _, _, _, e => by cases e
  | .dct _ _ :: _, _, _, _, e => by cases e
  | .ref _ :: _, _, _, _, e => by cases e
  | .ty _ :: _, _, _, _, e => by cases e
  | .scr _ :: _, _, _, _, e => by cases e
  | .tpx _ :: _, _, _, _, e => by cases e
def oJoin : O2 := fun x y S Q => match x with
  | .str a => (match (seqP S y).bind allS with
    | some ys => (ys.map (·.length)).sum + ys.length * a.length ≤ 16777216 ∧ Q (.str (Txt.join a ys)) S
    | none => False)
  | _ => False
theorem pv_join (ha : PV X S0 H0 a fa) (hb : PV X S0 H0 b fb) (hs : starEach [b] X.env = [(false, eval b X.env)] := by rfl) (hbase : attributeBase a "join" X.env (eval a X.env) = eval a X.env := by rfl) (hline : (apos.endLine == pos.line) = true := by rfl) :
    PV X S0 H0 (.Call (.Attribute a "join" apos) [b] [] pos) (fMs oJoin fa fb) := by
  refine pv_m1 F.slot_str_join F.type_str_join mt_join ⟨fun x y S Q Q' h q => ?_, fun x y S Qp v u H Q rx ry rs h k => ?_⟩ ha hb hs hbase hline
  · unfold oJoin at q ⊢
    split at q
    · split at q
      · exact ⟨q.1, h _ _ q.2⟩
      · exact q
    · exact q
  · unfold oJoin at h
    split at h
    · rename_i x
      split at h
      · rename_i ys e
        obtain ⟨xs, e1, e2⟩ := Option.bind_eq_some_iff.mp e
        obtain ⟨p, vs, rfl, hq, r⟩ := seq_rep rs ry e1
        have e3 := allS_rep r e2
        subst e3
        exact ⟨x, p, ys, rx, rfl, hq, h.1, k _ S _ H h.2 rfl rs (Ext.refl S H)⟩
      · exact h.elim
    · exact h.elim
def oStarts : O2 := fun x y S Q => match x, y with
  | .str a, .str b => Q (.bl (Txt.startswith a b)) S
  | _, _ => False
theorem pv_starts (ha : PV X S0 H0 a fa) (hb : PV X S0 H0 b fb) (hs : starEach [b] X.env = [(false, eval b X.env)] := by rfl) (hbase : attributeBase a "startswith" X.env (eval a X.env) = eval a X.env := by rfl) (hline : (apos.endLine == pos.line) = true := by rfl) :
    PV X S0 H0 (.Call (.Attribute a "startswith" apos) [b] [] pos) (fMs oStarts fa fb) := by
  refine pv_m1 F.slot_str_startswith F.type_str_startswith mt_startswith ⟨fun x y S Q Q' h q => ?_, fun x y S Qp v u H Q rx ry rs h k => ?_⟩ ha hb hs hbase hline
  · unfold oStarts at q ⊢
    split at q <;> first | exact h _ _ q | exact q
  · unfold oStarts at h
    split at h
    · rename_i x y
      exact ⟨x, y, rx, by rw [show u = _ from ry], k _ S _ H h rfl rs (Ext.refl S H)⟩
    · exact h.elim
end
end PL

namespace PL
open PySem PySem.Spec PyProof.Rows L2
theorem RepE.forget {K : PySem.W.Frag} {H : Hp} {S : Sto} {σ : L2.St} {ρ : Env'} (r : RepE K H S σ ρ) : ∀ vs : List Nat, RepE K H S σ (wipeP ρ vs)
  | [] => r
  | v :: vs => by
    have ih := RepE.forget r vs
    refine ⟨by show σ.length = ((wipeP ρ vs).set v none).length; rw [List.length_set]; exact ih.1, fun i p h => ?_⟩
    have h' : ((wipeP ρ vs).set v none)[i]? = some (some p) := h
    by_cases hi : v = i
    · subst hi
      rw [List.getElem?_set] at h'
      simp only [if_true] at h'
      split at h' <;> cases h'
    · rw [List.getElem?_set_ne hi] at h'
      exact ih.2 i p h'
def wE (ws : List Nat) (D : Ends') : Ends' := { nx := fun ρ S => D.nx (wipeP ρ ws) S, rt := D.rt, bk := fun ρ S => D.bk (wipeP ρ ws) S, ct := fun ρ S => D.ct (wipeP ρ ws) S }
def gEnd (ws : List Nat) (g : PFS) : PFS := fun D ρ S => g (wE ws D) ρ S
def gBeg (ws : List Nat) (g : PFS) : PFS := fun D ρ S => g D (wipeP ρ ws) S
section
variable {X : Cx} {S0 : Sto} {H0 : Hp} {st : Stmt} {sts : List Stmt} {g : PFS} {pos : Pos}
theorem gEnd_mono {ws : List Nat} (m : ∀ D D' ρ S, Ends'.le D D' → g D ρ S → g D' ρ S) : ∀ D D' ρ S, Ends'.le D D' → gEnd ws g D ρ S → gEnd ws g D' ρ S := fun D D' ρ S l q =>
  m (wE ws D) (wE ws D') ρ S ⟨fun ρ _ q => l.1 (wipeP ρ ws) _ q, l.2.1, fun ρ _ q => l.2.2.1 (wipeP ρ ws) _ q, fun ρ _ q => l.2.2.2 (wipeP ρ ws) _ q⟩ q
theorem lE_forget {K : PySem.W.Frag} {S : Sto} {H : Hp} {D : Ends} {ws : List Nat} : Ends'.le (wE ws (lE K S H D)) (lE K S H D) :=
  ⟨fun _ _ q σ' H' a1 a2 a3 => q σ' H' (a1.forget ws) a2 a3, fun _ _ q => q, fun _ _ q σ' H' a1 a2 a3 => q σ' H' (a1.forget ws) a2 a3, fun _ _ q σ' H' a1 a2 a3 => q σ' H' (a1.forget ws) a2 a3⟩
theorem pzs_end (ws : List Nat) (h : PZs X S0 H0 sts g) : PZs X S0 H0 sts (gEnd ws g) :=
  ⟨gEnd_mono h.mono, PSs.imp h.pss fun D σ H ⟨ρ, S, re, rs, ex, q⟩ => ⟨ρ, S, re, rs, ex, h.mono _ _ _ _ lE_forget q⟩⟩
theorem pz_beg (ws : List Nat) (h : PZ X S0 H0 st g) : PZ X S0 H0 st (gBeg ws g) :=
  ⟨fun D D' ρ S l q => h.mono _ _ _ _ l q, PS.imp h.ps fun D σ H ⟨ρ, S, re, rs, ex, q⟩ => ⟨wipeP ρ ws, S, re.forget ws, rs, ex, q⟩⟩
end
theorem forW_c {gd : Sto → Prop} {t : Tg} {b : PFS} {D : Ends'} {ρ0 : Env'} {P : Pv → Prop} (J : Sto → Prop) {its : List Pv} {S : Sto} (hP : ∀ x ∈ its, P x) (h0 : J S) (fin : ∀ S, J S → gd S ∧ D.nx ρ0 S)
    (step : ∀ x, P x → ∀ (k : Env' → Sto → Prop), (∀ S, J S → k ρ0 S) → ∀ S, J S → gd S ∧ match bindT S t x ρ0 with | some ρ' => b { nx := k, rt := D.rt, bk := D.nx, ct := k } ρ' S | none => False) : forW gd t b D its ρ0 S := by
  have main : ∀ (its : List Pv) (S : Sto), (∀ x ∈ its, P x) → J S → forW gd t b D its ρ0 S := by
    intro its
    induction its with
    | nil => exact fun S _ h => fin S h
    | cons x xs ih => exact fun S hP h => step x (hP x List.mem_cons_self) (forW gd t b D xs) (fun S' h' => ih S' (fun y hy => hP y (List.mem_cons_of_mem _ hy)) h') S h
  exact main its S hP h0
theorem forW_a {α : Type} {gd : Sto → Prop} {t : Tg} {b : PFS} {D : Ends'} (g : α → Pv) (all : List α) (E : List α → Env') (J : List α → Sto → Prop) {its : List Pv} {ρ0 : Env'} {S : Sto} (e : its = all.map g) (e0 : ρ0 = E []) (h0 : J [] S) (fin : ∀ S, J all S → gd S ∧ D.nx (E all) S)
    (step : ∀ (pre : List α) (x : α) (post : List α), pre ++ x :: post = all → ∀ (k : Env' → Sto → Prop), (∀ S, J (pre ++ [x]) S → k (E (pre ++ [x])) S) → ∀ S, J pre S → gd S ∧ match bindT S t (g x) (E pre) with | some ρ' => b { nx := k, rt := D.rt, bk := D.nx, ct := k } ρ' S | none => False) : forW gd t b D its ρ0 S := by
  subst e e0
  have main : ∀ (pre xs : List α) (S : Sto), pre ++ xs = all → J pre S → forW gd t b D (xs.map g) (E pre) S := by
    intro pre xs
    induction xs generalizing pre with
    | nil => intro S e h; rw [List.append_nil] at e; subst e; exact fin S h
    | cons x xs ih => exact fun S e h => step pre x xs e (forW gd t b D (xs.map g)) (fun S' h' => ih (pre ++ [x]) S' (by rw [List.append_assoc]; exact e) h') S h
  exact main [] all S rfl h0
end PL

namespace PL
open PySem PySem.Spec PyProof.Rows L2
open PySem.W (dataLe dataLt alike AllAlike EachIs)
theorem DpAll.len {K : PySem.W.Frag} {H : Hp} : ∀ {vs : List V} {ds : List PyData}, DpAll K H vs ds → vs.length = ds.length
  | [], _, h => by cases h; rfl
  | _ :: _, _, h => by cases h with | cons _ h2 => rw [List.length_cons, List.length_cons, DpAll.len h2]
def rSortD (K : PySem.W.Frag) : List V → Hp → VK → Prop := fun vs H Q => ∃ (a : Addr) (xs : List V) (ds : List PyData), vs = [V.ref a] ∧ SqL K H a xs ∧ DpAll K H xs ds ∧ AllAlike ds ∧ PySem.W.Sortable ds ∧ (∀ d ∈ ds, d.depth ≤ 60) ∧
  ∀ p, H p = none → Q (.ref p) (upd H p (.lst (((xs.zip ds).mergeSort (dataLe false (·.2))).map (·.1))))
section
variable {X : Cx} {pins : List (Addr × Obj)} {σ : L2.St} {H : Hp} {s : Shared}
theorem each_rel : ∀ {xs : List V} {us : List Value} {ds : List PyData}, Vals xs us → DpAll X.K H xs ds → EachIs (fun u (z : V × PyData) => RelV z.1 u) us (xs.zip ds)
  | [], us, ds, r, h => by cases h; cases r; exact .nil
  | _ :: _, us, ds, r, h => by
    cases h with
    | cons h1 h2 =>
      cases r with
      | cons r1 r2 => exact .cons r1 (each_rel r2 h2)
theorem each_reads (I : Inv X pins σ H s) : ∀ {xs : List V} {us : List Value} {ds : List PyData}, Vals xs us → DpAll X.K H xs ds → EachIs (fun u (z : V × PyData) => ∃ as, Reads s.heap u z.2 as) us (xs.zip ds)
  | [], us, ds, r, h => by cases h; cases r; exact .nil
  | _ :: _, us, ds, r, h => by
    cases h with
    | cons h1 h2 =>
      cases r with
      | cons r1 r2 => exact .cons (Dp.reads I _ _ _ h1 r1) (each_reads I r2 h2)
theorem each_vals : ∀ {us : List Value} {zs : List (V × PyData)}, EachIs (fun u (z : V × PyData) => RelV z.1 u) us zs → Vals (zs.map (·.1)) us
  | _, _, .nil => .nil
  | _, _, .cons h h2 => .cons h (each_vals h2)
theorem cr_sortD (hu : X.A.units + 64 < cLine) : CallR X (.builtin "sorted") (rSortD X.K) := by
  intro pins s σ H vs us Q I r h
  obtain ⟨a, xs, ds, rfl, hs, hd, al, so, dp, q⟩ := h
  obtain ⟨its, rv, hl, hz⟩ := I.list hs
  obtain ⟨u, rfl, ru⟩ := vals1 r
  obtain rfl : u = Value.ref a := ru
  have em : (xs.zip ds).map (·.2) = ds := List.map_snd_zip (by rw [DpAll.len hd]; exact Nat.le_refl _)
  have e1 : (xs.zip ds).length = xs.length := by rw [List.length_zip, ← DpAll.len hd, Nat.min_self]
  refine PySem.W.sorted_data (enc := fun z : V × PyData => z.2) (R := fun u (z : V × PyData) => RelV z.1 u) hl.isList (each_rel rv hd) (each_reads I rv hd) (by rw [em]; exact al) (by rw [em]; exact so) (by rw [e1]; exact hz) (fun b hb => ?_) fun out ho he => ?_
  · have := dp b.2 (by rw [← em]; exact List.mem_map.mpr ⟨b, hb, rfl⟩)
    omega
  · have rvo := each_vals he
    have hn : H (s.heap.objs.size + 1) = none := I.hok.fresh (Nat.le_succ _)
    obtain ⟨n, hn2⟩ := sortedAll_at s.heap its out.toArray
    refine ⟨.ref (s.heap.objs.size + 1), upd H (s.heap.objs.size + 1) (.lst (((xs.zip ds).mergeSort (dataLe false (·.2))).map (·.1))), I.laid (t' := s.toks) (fun b o e => sortedAll_old e) (Nat.le_succ _) ⟨?_, out, n, rvo, hn2⟩, rfl, q _ hn⟩
    rw [List.length_map, List.length_mergeSort, e1]
    exact hz
end
namespace SortT
open PySem.W PySem.Builtin
section
variable {prog : Program} {w : World} {A : Around} {E : Value → Shared → Prop} {s : Shared}
theorem collect_tuple {l : Addr} {vs : List Value} {Q : List Value → Shared → Prop} (hl : s.heap.IsTuple l vs.toArray)
    (h : Q vs { s with heap := (s.heap.push (seqObj "list" #[] 0)).update s.heap.objs.size (Obj.mapSeq (· ++ vs.toArray)) }) (hsz : vs.length ≤ sizeLine) :
    wpAny (model prog w) A (collect (.ref l)) Q E s := by
  obtain ⟨o, ho, hc, n, hd⟩ := id hl
  unfold collect
  refine wpAny_bind (wpAny_runValue (codeAny_builtin entry_proto_collect' ?_))
  show wpAny _ _ (do again (.builtin "list.__iadd__" ⟨[← newList [], .ref l], []⟩)) _ _ s
  refine wpAny_bind (wpAny_newList (wpAny_pure ⟨Code.quiet_builtin _ (by decide +kernel), codeAny_builtin entry_list_iadd' ?_⟩))
  show wpAny _ _ (Builtin.List.listExtendWith (.ref s.heap.objs.size) (.ref l) (.ref s.heap.objs.size)) _ _ { s with heap := s.heap.push (seqObj "list" #[] 0) }
  unfold Builtin.List.listExtendWith
  have ho' : (s.heap.push (seqObj "list" #[] 0)).get? l = some o := Heap.get?_push_of_some _ ho
  refine wpAny_bind (wpAny_typeOf (T := "tuple") ⟨o, ho', hc⟩ ?_)
  have ht : (Value.type "tuple" == Value.type "tuple") = true := by rfl
  rw [if_pos (by rw [ht]; simp)]
  refine wpAny_bind (listItems_at ho' hd ?_)
  refine wpAny_bind (listItems_at (xs := #[]) (n := 0) (Heap.get?_push_size _ rfl) rfl ?_)
  rw [if_neg (by simp)]
  refine wpAny_bind (listUpdate_at (xs := #[]) (n := 0) (Heap.get?_push_size _ rfl) rfl ?_ (Nat.zero_le _) (by show (#[] ++ vs.toArray).size ≤ sizeLine + 1; simp only [Array.size_append, List.size_toArray, List.length_nil]; omega))
  refine wpAny_pure ?_
  show wpAny (model prog w) A (do
      let o ← load s.heap.objs.size
      match o.data with
      | .seq xs _ => pure xs.toList
      | _ => unsupported "internal:collect") Q E { s with heap := (s.heap.push (seqObj "list" #[] 0)).update s.heap.objs.size (Obj.mapSeq (· ++ vs.toArray)) }
  refine wpAny_bind (wpAny_load (get?_update_seq (Heap.get?_push_size _ rfl) _) ?_)
  show wpAny _ _ (pure ((#[] : Array Value) ++ vs.toArray).toList) Q E _
  rw [show ((#[] : Array Value) ++ vs.toArray).toList = vs by simp]
  exact wpAny_pure h
theorem sorted_of_sortT {l : Addr} {vs : List Value} {kw : List (Str × Value)} {Q : Value → Shared → Prop} (hl : s.heap.IsTuple l vs.toArray) (hL : vs.length ≤ sizeLine) (ha1 : argsOk "sorted" ⟨[.ref l], kw⟩) (ha2 : ∀ x, argsOk "list.sort" ⟨[.ref x], kw⟩)
    (body : ∀ E' : Value → Shared → Prop, wpAny (model prog w) A.in1.in1 (Builtin.«list.sort» ⟨[.ref (s.heap.objs.size + 1)], kw⟩) (fun f s' => f = .done (.ret .none) ∧ Q (.ref (s.heap.objs.size + 1)) s') E' { s with heap := copyHeap s.heap vs }) :
    wpAny (model prog w) A (call (.builtin "sorted") [.ref l] kw) Q E s := by
  refine call_function_entry_kw kind_sorted plain_sorted entry_sorted ha1 ?_
  unfold Builtin.«sorted»
  refine wpAny_bind (m := checkCount "sorted" 1 1 _) (wpAny_pure ?_)
  refine wpAny_bind (collect_tuple hl ?_ hL)
  refine wpAny_bind (wpAny_newList ?_ hL)
  have hsz : ((s.heap.push (seqObj "list" #[] 0)).update s.heap.objs.size (Obj.mapSeq (· ++ vs.toArray))).objs.size = s.heap.objs.size + 1 := by
    rw [Heap.size_update, size_push']
  show wpAny _ _ _ _ _ { s with heap := copyHeap s.heap vs }
  rw [hsz]
  refine wpAny_bind (wpAny_holding (wpAny_call_entry_kw slot_list_sort ⟨_, copyHeap_at s.heap vs, rfl⟩ entry_list_sort ?body (ha2 _)))
  case body =>
    show wpAny (model prog w) A.in1.in1 (Builtin.«list.sort» ⟨[.ref (s.heap.objs.size + 1)], kw⟩) _ _ _
    refine wpAny_mono (body _) (fun f s' hf => ?_) fun _ _ e => e
    obtain ⟨rfl, hq⟩ := hf
    exact ⟨_, rfl, wpAny_pure ⟨_, rfl, hq⟩⟩
theorem sorted_dataT {β : Type} {vs : List Value} {bs : List β} {enc : β → PyData} {R : Value → β → Prop} {l : Addr} {Q : Value → Shared → Prop} (hl : s.heap.IsTuple l vs.toArray) (e : EachIs R vs bs) (er : EachIs (fun v b => ∃ as, Reads s.heap v (enc b) as) vs bs) (hal : AllAlike (bs.map enc)) (hk : PySem.W.Sortable (bs.map enc)) (hL : bs.length ≤ sizeLine)
    (hu : ∀ b, b ∈ bs → A.units + 2 + (enc b).depth < cLine) (h : ∀ out, out.length = bs.length → EachIs R out (bs.mergeSort (dataLe false enc)) → Q (.ref (s.heap.objs.size + 1)) { s with heap := sortedAll s.heap vs (List.toArray out) }) :
    wpAny (model prog w) A (call (.builtin "sorted") [.ref l]) Q E s := by
  have er' : EachIs (fun v b => ∃ as, Reads (sortingHeap (copyHeap s.heap vs) (s.heap.objs.size + 1) vs) v (enc b) as) vs bs := er.mono fun _ _ ⟨as, r⟩ => ⟨as, PyProof.Rows.Reads.keeps (fun _ _ => sorting_copy_old) r⟩
  have hL2 : vs.length ≤ sizeLine := by rw [e.length]; exact hL
  refine sorted_of_sortT hl hL2 (args_sorted1 _) (fun _ => args_list_sort _) fun _ => list_sort_vals (s := { s with heap := copyHeap s.heap vs }) (copyHeap_at s.heap vs) (SortsAt.data (s := { s with heap := sortingHeap (copyHeap s.heap vs) (s.heap.objs.size + 1) vs }) (each_map (R := fun v d => ∃ as, Reads (sortingHeap (copyHeap s.heap vs) (s.heap.objs.size + 1) vs) v d as) enc er') hal hk (bound_map hu)) hL2 ⟨rfl, ?_⟩
  exact h _ (by rw [sortVals_length false rfl]; exact e.length) (sortVals_data false e er' hal)
end
end SortT
section
variable {X : Cx} {pins : List (Addr × Obj)} {σ : L2.St} {H : Hp} {s : Shared}
def rSortT (K : PySem.W.Frag) : List V → Hp → VK → Prop := fun vs H Q => ∃ (a : Addr) (xs : List V) (ds : List PyData), vs = [V.ref a] ∧ SqT K H a xs ∧ DpAll K H xs ds ∧ AllAlike ds ∧ PySem.W.Sortable ds ∧ (∀ d ∈ ds, d.depth ≤ 60) ∧
  ∀ p, H p = none → Q (.ref p) (upd H p (.lst (((xs.zip ds).mergeSort (dataLe false (·.2))).map (·.1))))
theorem cr_sortT' (hu : X.A.units + 64 < cLine) : CallR X (.builtin "sorted") (rSortT X.K) := by
  intro pins s σ H vs us Q I r h
  obtain ⟨a, xs, ds, rfl, hs, hd, al, so, dp, q⟩ := h
  obtain ⟨its, rv, hl, hz⟩ := I.tuple hs
  obtain ⟨u, rfl, ru⟩ := vals1 r
  obtain rfl : u = Value.ref a := ru
  have em : (xs.zip ds).map (·.2) = ds := List.map_snd_zip (by rw [DpAll.len hd]; exact Nat.le_refl _)
  have e1 : (xs.zip ds).length = xs.length := by rw [List.length_zip, ← DpAll.len hd, Nat.min_self]
  refine SortT.sorted_dataT (enc := fun z : V × PyData => z.2) (R := fun u (z : V × PyData) => RelV z.1 u) hl (each_rel rv hd) (each_reads I rv hd) (by rw [em]; exact al) (by rw [em]; exact so) (by rw [e1]; exact hz) (fun b hb => ?_) fun out ho he => ?_
  · have := dp b.2 (by rw [← em]; exact List.mem_map.mpr ⟨b, hb, rfl⟩)
    omega
  · have rvo := each_vals he
    have hn : H (s.heap.objs.size + 1) = none := I.hok.fresh (Nat.le_succ _)
    obtain ⟨n, hn2⟩ := sortedAll_at s.heap its out.toArray
    refine ⟨.ref (s.heap.objs.size + 1), upd H (s.heap.objs.size + 1) (.lst (((xs.zip ds).mergeSort (dataLe false (·.2))).map (·.1))), I.laid (t' := s.toks) (fun b o e => sortedAll_old e) (Nat.le_succ _) ⟨?_, out, n, rvo, hn2⟩, rfl, q _ hn⟩
    rw [List.length_map, List.length_mergeSort, e1]
    exact hz
end
def sortP (xs : List Pv) : List Pv := xs.mergeSort (dataLe false toD)
def sortOk (xs : List Pv) : Prop := isDs xs = true ∧ AllAlike (xs.map toD) ∧ PySem.W.Sortable (xs.map toD) ∧ ∀ x ∈ xs, (toD x).depth ≤ 60
def oSorted : On := fun ps S Q => match ps with
  | [.tup xs] => sortOk xs ∧ Q (.lst (sortP xs)) S
  | [x] => (match rdL S x with | some xs => sortOk xs ∧ Q (.lst (sortP xs)) S | none => False)
  | _ => False
theorem toDs_map : ∀ xs : List Pv, toDs xs = xs.map toD
  | [] => rfl
  | x :: xs => by rw [toDs, toDs_map xs]; rfl
theorem RepVs.mem {K : PySem.W.Frag} {H : Hp} {S : Sto} : ∀ {zs : List (V × Pv)}, (∀ z ∈ zs, RepV K H S z.2 z.1) → RepVs K H S (zs.map (·.2)) (zs.map (·.1))
  | [], _ => rfl
  | z :: zs, h => ⟨z.1, zs.map (·.1), rfl, h z List.mem_cons_self, RepVs.mem fun y hy => h y (List.mem_cons_of_mem _ hy)⟩
theorem RepVs.zip {K : PySem.W.Frag} {H : Hp} {S : Sto} : ∀ {xs : List Pv} {vs : List V}, RepVs K H S xs vs → ∀ z ∈ vs.zip xs, RepV K H S z.2 z.1
  | [], _, h, z, hz => by have e : _ = [] := h; rw [e] at hz; cases hz
  | p :: ps, _, ⟨v, r, e, h1, h2⟩, z, hz => by
    rw [e] at hz
    rcases List.mem_cons.mp hz with rfl | hz
    · exact h1
    · exact RepVs.zip h2 z hz
section
variable {X : Cx} {S0 : Sto} {H0 : Hp} {a : Expr} {fs : PFs} {pos p : Pos}
theorem sort_rep {K : PySem.W.Frag} {H : Hp} {S : Sto} {xs : List Pv} {vs : List V} (r : RepVs K H S xs vs) : RepVs K H S (sortP xs) (((vs.zip (toDs xs)).mergeSort (dataLe false (·.2))).map (·.1)) := by
  have e1 : ((vs.zip xs).mergeSort (dataLe false fun z : V × Pv => toD z.2)).map (·.2) = sortP xs := by
    unfold sortP
    rw [List.map_mergeSort (r := dataLe false fun z : V × Pv => toD z.2) (s := dataLe false toD) (f := fun z : V × Pv => z.2) (fun _ _ _ _ => rfl), List.map_snd_zip (by rw [r.len]; exact Nat.le_refl _)]
  have e2 : ((vs.zip xs).mergeSort (dataLe false fun z : V × Pv => toD z.2)).map (·.1) = ((vs.zip (toDs xs)).mergeSort (dataLe false (·.2))).map (·.1) := by
    have e3 : vs.zip (toDs xs) = (vs.zip xs).map fun z => (z.1, toD z.2) := by
      rw [toDs_map, List.zip_map_right]
      rfl
    rw [e3, ← List.map_mergeSort (r := dataLe false fun z : V × Pv => toD z.2) (f := fun z : V × Pv => (z.1, toD z.2)) (fun _ _ _ _ => rfl), List.map_map]
    rfl
  rw [← e1, ← e2]
  exact RepVs.mem fun z hz => r.zip z ((List.mergeSort_perm _ _).mem_iff.mp hz)
theorem pv_sorted (hu : X.A.units + 64 < cLine) (hm : X.mg "sorted" = none) (ha : PVs X S0 H0 [a] fs) (hg : Gl X "sorted" := by rfl) (he : starEach (a :: []) X.env = (false, eval a X.env) :: starEach [] X.env := by rfl) (hpl : (backTo pos (starEach [] X.env)).any (·.1) = false := by rfl) : PV X S0 H0 (.Call (.Name "sorted" p) [a] [] pos) (fN oSorted fs) := by
  refine pv_callB (CallR.or (cr_sortD hu) (cr_sortT' hu)) ⟨fun x S Q Q' h q => ?_, fun x S Qp v H Q rx rs h k => ?_⟩ hg hm (by decide +kernel) ha (by decide) (by decide) he hpl
  · unfold oSorted at q ⊢
    split at q
    · exact ⟨q.1, h _ _ q.2⟩
    · split at q
      · exact ⟨q.1, h _ _ q.2⟩
      · exact q
    · exact q
  · unfold oSorted at h
    split at h
    · obtain ⟨v1, rfl, r1⟩ := rx.one
      rename_i xs
      obtain ⟨⟨h1, h2, h3, h4⟩, h5⟩ := h
      obtain ⟨t, vs, e1, hq, r⟩ := r1
      refine .inr ⟨t, vs, toDs xs, by rw [e1], hq, dps_of _ _ r h1, by rw [toDs_map]; exact h2, by rw [toDs_map]; exact h3, ?_, fun p np => ?_⟩
      · intro d hd
        rw [toDs_map] at hd
        obtain ⟨x, hx, rfl⟩ := List.mem_map.mp hd
        exact h4 x hx
      · obtain ⟨a1, a2, a3⟩ := newL_k rs np (sort_rep r)
        exact k _ S _ _ h5 a1 a2 a3
    · obtain ⟨v1, rfl, r1⟩ := rx.one
      split at h
      · rename_i xs e0
        obtain ⟨⟨h1, h2, h3, h4⟩, h5⟩ := h
        obtain ⟨t, vs, e1, hq, r⟩ := rdL_rep rs r1 e0
        refine .inl ⟨t, vs, toDs xs, by rw [e1], hq, dps_of _ _ r h1, by rw [toDs_map]; exact h2, by rw [toDs_map]; exact h3, ?_, fun p np => ?_⟩
        · intro d hd
          rw [toDs_map] at hd
          obtain ⟨x, hx, rfl⟩ := List.mem_map.mp hd
          exact h4 x hx
        · obtain ⟨a1, a2, a3⟩ := newL_k rs np (sort_rep r)
          exact k _ S _ _ h5 a1 a2 a3
      · exact h.elim
    · exact h.elim
def oSortedT : On := fun ps S Q => match ps with
  | [x] => (match rdL S x with | some xs => sortOk xs ∧ ∀ a, S a = none → Q (.ref a) (put S a (.lst (sortP xs))) | none => False)
  | _ => False
theorem pv_sortedT (hu : X.A.units + 64 < cLine) (hm : X.mg "sorted" = none) (ha : PVs X S0 H0 [a] fs) (hg : Gl X "sorted" := by rfl) (he : starEach (a :: []) X.env = (false, eval a X.env) :: starEach [] X.env := by rfl) (hpl : (backTo pos (starEach [] X.env)).any (·.1) = false := by rfl) : PV X S0 H0 (.Call (.Name "sorted" p) [a] [] pos) (fN oSortedT fs) := by
  refine pv_callB (cr_sortD hu) ⟨fun x S Q Q' h q => ?_, fun x S Qp v H Q rx rs h k => ?_⟩ hg hm (by decide +kernel) ha (by decide) (by decide) he hpl
  · unfold oSortedT at q ⊢
    split at q
    · split at q
      · exact ⟨q.1, fun a ha => h _ _ (q.2 a ha)⟩
      · exact q
    · exact q
  · unfold oSortedT at h
    split at h
    · obtain ⟨v1, rfl, r1⟩ := rx.one
      split at h
      · rename_i xs e0
        obtain ⟨⟨h1, h2, h3, h4⟩, h5⟩ := h
        obtain ⟨t, vs, e1, hq, r⟩ := rdL_rep rs r1 e0
        refine ⟨t, vs, toDs xs, by rw [e1], hq, dps_of _ _ r h1, by rw [toDs_map]; exact h2, by rw [toDs_map]; exact h3, ?_, fun p np => ?_⟩
        · intro d hd
          rw [toDs_map] at hd
          obtain ⟨x, hx, rfl⟩ := List.mem_map.mp hd
          exact h4 x hx
        · exact k _ _ _ _ (h5 p (rs.fr np)) rfl (rs.newL np (sort_rep r)) (Ext.newS np)
      · exact h.elim
    · exact h.elim
end
theorem isDs_map {α : Type} {f : α → Pv} (h : ∀ x, isD (f x) = true) : ∀ xs : List α, isDs (xs.map f) = true
  | [] => rfl
  | x :: xs => by show (isD (f x) && isDs (xs.map f)) = true; rw [h x, isDs_map h xs]; rfl
theorem sortOk_str (xs : List Str) : sortOk (xs.map Pv.str) := by
  refine ⟨isDs_map (fun _ => rfl) xs, ?_, .inr ?_, ?_⟩
  · intro d hd d' hd'
    simp only [List.map_map, List.mem_map, Function.comp_apply] at hd hd'
    obtain ⟨x, _, rfl⟩ := hd
    obtain ⟨y, _, rfl⟩ := hd'
    rfl
  · intro d hd
    simp only [List.map_map, List.mem_map, Function.comp_apply] at hd
    obtain ⟨x, _, rfl⟩ := hd
    exact ⟨fun e => (by cases e), fun xs e => (by cases e)⟩
  · intro d hd
    obtain ⟨x, _, rfl⟩ := List.mem_map.mp hd
    exact Nat.zero_le _
theorem sortOk_int (xs : List Int) : sortOk (xs.map Pv.int) := by
  refine ⟨isDs_map (fun _ => rfl) xs, ?_, .inr ?_, ?_⟩
  · intro d hd d' hd'
    simp only [List.map_map, List.mem_map, Function.comp_apply] at hd hd'
    obtain ⟨x, _, rfl⟩ := hd
    obtain ⟨y, _, rfl⟩ := hd'
    rfl
  · intro d hd
    simp only [List.map_map, List.mem_map, Function.comp_apply] at hd
    obtain ⟨x, _, rfl⟩ := hd
    exact ⟨fun e => (by cases e), fun xs e => (by cases e)⟩
  · intro d hd
    obtain ⟨x, _, rfl⟩ := List.mem_map.mp hd
    exact Nat.zero_le _
end PL

namespace PL
open PySem PySem.Spec PyProof.Rows L2
section
variable {X : Cx} {S0 : Sto} {H0 : Hp} {a b : Expr} {fa fb : PF} {fs : PFs} {pos p : Pos}
theorem call_divmodZ : CallR X (.builtin "divmod") (fun xs H Q => ∃ i j, xs = [.int i, .int j] ∧ (j ≠ 0 ∧ j.natAbs.log2 < 9000) ∧ ∀ p, H p = none → Q (.ref p) (upd H p (.tup [.int (i.fdiv j), .int (i.fmod j)]))) := by
  intro pins s σ H xs us Q I r h
  obtain ⟨i, j, rfl, ⟨h1, h2⟩, q⟩ := h
  obtain ⟨u, w', rfl, ⟨t, rfl⟩, ⟨t', rfl⟩⟩ := vals2 r
  refine divmod_int h1 ?_ (.inl (PyProof.noPylong_of_log2 h2))
  have hn : H s.heap.objs.size = none := I.hok.fresh (Nat.le_refl _)
  refine ⟨.ref s.heap.objs.size, _, ?_, rfl, q _ hn⟩
  refine I.laid (fun b o e => Heap.get?_push_of_some _ e) (Nat.le_refl _) ⟨by simp only [List.length_cons, List.length_nil]; rw [sizeLine_eq]; decide, [.int (i.fdiv j) s.toks, .int (i.fmod j) (s.toks + 1)], .cons ⟨_, rfl⟩ (.cons ⟨_, rfl⟩ .nil), ?_⟩
  exact ⟨_, Heap.get?_push_size s.heap rfl, rfl, 0, rfl⟩
def oDivmod : On := fun ps S Q => match ps with
  | [.int i, .int j] => (j ≠ 0 ∧ j.natAbs.log2 < 9000) ∧ Q (.tup [.int (i.fdiv j), .int (i.fmod j)]) S
  | _ => False
theorem pv_divmod (hm : X.mg "divmod" = none) (ha : PVs X S0 H0 [a, b] fs) (hg : Gl X "divmod" := by rfl) (he : starEach (a :: [b]) X.env = (false, eval a X.env) :: starEach [b] X.env := by rfl) (hpl : (backTo pos (starEach [b] X.env)).any (·.1) = false := by rfl) : PV X S0 H0 (.Call (.Name "divmod" p) [a, b] [] pos) (fN oDivmod fs) := by
  refine pv_callB call_divmodZ ⟨fun x S Q Q' h q => ?_, fun x S Qp v H Q rx rs h k => ?_⟩ hg hm (by decide +kernel) ha (by decide) (by decide) he hpl
  · unfold oDivmod at q ⊢
    split at q
    · exact ⟨q.1, h _ _ q.2⟩
    · exact q
  · unfold oDivmod at h
    split at h
    · rename_i i j
      obtain ⟨v1, v2, rfl, r1, r2⟩ := rx.two
      refine ⟨i, j, by rw [show v1 = _ from r1, show v2 = _ from r2], h.1, fun p np => ?_⟩
      obtain ⟨a1, a2, a3⟩ := newT_k rs np (xs := [.int (i.fdiv j), .int (i.fmod j)]) ⟨_, _, rfl, rfl, _, _, rfl, rfl, rfl⟩
      exact k _ S _ _ h.2 a1 a2 a3
    · exact h.elim
end
end PL

namespace PL
open PySem PySem.Spec PyProof.Rows L2
open HT (slicePart_)
namespace RevT
section
variable {prog : Program} {w : World} {A : Around} {E : Value → Shared → Prop} {s : Shared}
end
section
variable {X : Cx}
end
end RevT
section
variable {X : Cx} {S0 : Sto} {H0 : Hp} {a : Expr} {fa : PF} {pos : Pos}
end
end PL

namespace PL
open PySem PySem.Spec PyProof.Rows L2

def SpF {α : Type} (args : α → List Pv) (pre : α → Prop) (res : α → Pv) : PSp := fun xs S Q _ => ∃ a, xs = args a ∧ pre a ∧ Q (res a) S
theorem SpF.len {α : Type} {args : α → List Pv} {pre : α → Prop} {res : α → Pv} {n : Nat} (h : ∀ a, (args a).length = n) : ∀ (xs : List Pv) (S : Sto) (Q : QV) (E : QE), SpF args pre res xs S Q E → xs.length = n := fun xs S Q E ⟨a, e, _⟩ => by rw [e]; exact h a
theorem SpF.mono {α : Type} {args : α → List Pv} {pre : α → Prop} {res : α → Pv} : ∀ (xs : List Pv) S (Q Q' : QV) (E E' : QE), (∀ p S', Q p S' → Q' p S') → (∀ C S', E C S' → E' C S') → SpF args pre res xs S Q E → SpF args pre res xs S Q' E' := fun xs S Q Q' E E' h _ ⟨a, e, p, q⟩ => ⟨a, e, p, h _ _ q⟩
def SpS {α : Type} (args : α → List Pv) (pre : α → Sto → Prop) (post : α → Sto → Pv → Sto → Prop) : PSp := fun xs S Q _ => ∃ a, xs = args a ∧ pre a S ∧ ∀ p S', post a S p S' → Q p S'
theorem SpS.len {α : Type} {args : α → List Pv} {pre : α → Sto → Prop} {post : α → Sto → Pv → Sto → Prop} {n : Nat} (h : ∀ a, (args a).length = n) : ∀ (xs : List Pv) (S : Sto) (Q : QV) (E : QE), SpS args pre post xs S Q E → xs.length = n := fun xs S Q E ⟨a, e, _⟩ => by rw [e]; exact h a
theorem SpS.mono {α : Type} {args : α → List Pv} {pre : α → Sto → Prop} {post : α → Sto → Pv → Sto → Prop} : ∀ (xs : List Pv) S (Q Q' : QV) (E E' : QE), (∀ p S', Q p S' → Q' p S') → (∀ C S', E C S' → E' C S') → SpS args pre post xs S Q E → SpS args pre post xs S Q' E' := fun xs S Q Q' E E' h _ ⟨a, e, p, q⟩ => ⟨a, e, p, fun p S' z => h _ _ (q p S' z)⟩
abbrev endD (Q : QV) : Ends' := { nx := fun _ S => Out Q .non S, rt := Out Q }
theorem SpF.ex {α : Type} {args : α → List Pv} {pre : α → Prop} {res : α → Pv} {b : PFS} {n : Nat} (h : ∀ a S (Q : QV), pre a → Q (res a) S → b (endD Q) (st0 n (args a)) S) {xs : List Pv} {S0 : Sto} {Q : QV} {Ep : QE} (q : SpF args pre res xs S0 Q Ep) : b (endD Q) (st0 n xs) S0 := by
  obtain ⟨a, e, p, q⟩ := q
  rw [e]
  exact h a S0 Q p q
theorem SpS.ex {α : Type} {args : α → List Pv} {pre : α → Sto → Prop} {post : α → Sto → Pv → Sto → Prop} {b : PFS} {n : Nat} (h : ∀ a S (Q : QV), pre a S → (∀ p S', post a S p S' → Q p S') → b (endD Q) (st0 n (args a)) S) {xs : List Pv} {S0 : Sto} {Q : QV} {Ep : QE} (q : SpS args pre post xs S0 Q Ep) : b (endD Q) (st0 n xs) S0 := by
  obtain ⟨a, e, p, q⟩ := q
  rw [e]
  exact h a S0 Q p q
def SpG {α : Type} (args : α → List Pv) (pre : α → Sto → Prop) (res : α → Sto → Pv) : PSp := fun xs S Q _ => ∃ a, xs = args a ∧ pre a S ∧ Q (res a S) S
theorem SpG.len {α : Type} {args : α → List Pv} {pre : α → Sto → Prop} {res : α → Sto → Pv} {n : Nat} (h : ∀ a, (args a).length = n) : ∀ (xs : List Pv) (S : Sto) (Q : QV) (E : QE), SpG args pre res xs S Q E → xs.length = n := fun xs S Q E ⟨a, e, _⟩ => by rw [e]; exact h a
theorem SpG.mono {α : Type} {args : α → List Pv} {pre : α → Sto → Prop} {res : α → Sto → Pv} : ∀ (xs : List Pv) S (Q Q' : QV) (E E' : QE), (∀ p S', Q p S' → Q' p S') → (∀ C S', E C S' → E' C S') → SpG args pre res xs S Q E → SpG args pre res xs S Q' E' := fun xs S Q Q' E E' h _ ⟨a, e, p, q⟩ => ⟨a, e, p, h _ _ q⟩
theorem SpG.ex {α : Type} {args : α → List Pv} {pre : α → Sto → Prop} {res : α → Sto → Pv} {b : PFS} {n : Nat} (h : ∀ a S (Q : QV), pre a S → Q (res a S) S → b (endD Q) (st0 n (args a)) S) {xs : List Pv} {S0 : Sto} {Q : QV} {Ep : QE} (q : SpG args pre res xs S0 Q Ep) : b (endD Q) (st0 n xs) S0 := by
  obtain ⟨a, e, p, q⟩ := q
  rw [e]
  exact h a S0 Q p q
def SpB {α : Type} (args : α → List Pv) (pre : α → Sto → Prop) (res : α → Sto → Bool) : PSp := fun xs S Q _ => ∃ a, xs = args a ∧ pre a S ∧ ∀ b, b = res a S → Q (.bl b) S
theorem SpB.len {α : Type} {args : α → List Pv} {pre : α → Sto → Prop} {res : α → Sto → Bool} {n : Nat} (h : ∀ a, (args a).length = n) : ∀ (xs : List Pv) (S : Sto) (Q : QV) (E : QE), SpB args pre res xs S Q E → xs.length = n := fun xs S Q E ⟨a, e, _⟩ => by rw [e]; exact h a
theorem SpB.mono {α : Type} {args : α → List Pv} {pre : α → Sto → Prop} {res : α → Sto → Bool} : ∀ (xs : List Pv) S (Q Q' : QV) (E E' : QE), (∀ p S', Q p S' → Q' p S') → (∀ C S', E C S' → E' C S') → SpB args pre res xs S Q E → SpB args pre res xs S Q' E' := fun xs S Q Q' E E' h _ ⟨a, e, p, q⟩ => ⟨a, e, p, fun b z => h _ _ (q b z)⟩
theorem SpB.ex {α : Type} {args : α → List Pv} {pre : α → Sto → Prop} {res : α → Sto → Bool} {b : PFS} {n : Nat} (h : ∀ a S (Q : QV), pre a S → Q (.bl (res a S)) S → b (endD Q) (st0 n (args a)) S) {xs : List Pv} {S0 : Sto} {Q : QV} {Ep : QE} (q : SpB args pre res xs S0 Q Ep) : b (endD Q) (st0 n xs) S0 := by
  obtain ⟨a, e, p, q⟩ := q
  rw [e]
  exact h a S0 Q p (q _ rfl)

theorem lz {n : Nat} (h : Nat.ble n 1000 = true) : n ≤ sizeLine := Nat.le_trans (Nat.le_of_ble_eq_true h) (by decide)
def szI (n : Nat) (i : Int) : Prop := i.natAbs < 2 ^ n
theorem szI.up {n m : Nat} {i : Int} (h : szI n i) (l : n ≤ m) : szI m i := Nat.lt_of_lt_of_le h (Nat.pow_le_pow_right (by decide) l)
theorem szI.mul {n m : Nat} {i j : Int} (h : szI n i) (h' : szI m j) : szI (n + m) (i * j) := by
  unfold szI at *
  rw [Int.natAbs_mul, Nat.pow_add]
  exact Nat.mul_lt_mul'' h h'
theorem szI.add {n m : Nat} {i j : Int} (h : szI n i) (h' : szI m j) : szI (max n m + 1) (i + j) := by
  have a := h.up (Nat.le_max_left n m)
  have b := h'.up (Nat.le_max_right n m)
  unfold szI at *
  rw [Nat.pow_succ]
  omega
theorem szI.sub {n m : Nat} {i j : Int} (h : szI n i) (h' : szI m j) : szI (max n m + 1) (i - j) := by
  have a := h.up (Nat.le_max_left n m)
  have b := h'.up (Nat.le_max_right n m)
  unfold szI at *
  rw [Nat.pow_succ]
  omega
theorem mulOk {n m : Nat} {i j : Int} (h : szI n i) (h' : szI m j) (l : n + m ≤ 900000) : IntMulOk i j :=
  (wide_mul (h.up (Nat.le_succ n)) (h'.up (Nat.le_succ m)) (Nat.succ_pos n) (Nat.succ_pos m) (by omega)).ok
theorem log_lt {n : Nat} {i : Int} (h : szI n i) (l : n < 9000) : i.natAbs.log2 < 9000 := by
  have h' := h.up (Nat.le_succ n)
  exact Nat.lt_of_lt_of_le (PySem.Flt.log2_lt_of (Nat.succ_pos n) h') (by omega)
def fr (q : Rat) : Pv := .tup [.int q.num, .int (q.den : Int)]
def Sz (n : Nat) (q : Rat) : Prop := szI n q.num ∧ szI n (q.den : Int)
theorem Sz.up {n m : Nat} {q : Rat} (h : Sz n q) (l : n ≤ m) : Sz m q := ⟨h.1.up l, h.2.up l⟩
theorem divInt_sz {n : Nat} {t b : Int} (hb : b ≠ 0) (ht : szI n t) (h : szI n b) : Sz n (Rat.divInt t b) := by
  have hg : 0 < b.gcd t := Int.gcd_pos_of_ne_zero_left _ hb
  refine ⟨?_, ?_⟩
  · unfold szI at *
    rw [Rat.num_divInt]
    have e : (b.sign * t / ↑(b.gcd t)).natAbs ≤ (b.sign * t).natAbs := Int.natAbs_ediv_le_natAbs _ _
    have e2 : (b.sign * t).natAbs = t.natAbs := by
      rw [Int.natAbs_mul, Int.natAbs_sign_of_ne_zero hb, Nat.one_mul]
    omega
  · unfold szI at *
    rw [Rat.den_divInt, if_neg hb]
    have e : b.natAbs / b.gcd t ≤ b.natAbs := Nat.div_le_self _ _
    simp only [Int.natAbs_natCast]
    omega
theorem add_eq (p q : Rat) : p + q = Rat.divInt (p.num * q.den + q.num * p.den) (p.den * q.den) := by
  have h1 : (p.den : Int) ≠ 0 := by have := p.den_nz; omega
  have h2 : (q.den : Int) ≠ 0 := by have := q.den_nz; omega
  have e := Rat.divInt_add_divInt p.num q.num h1 h2
  rw [Rat.num_divInt_den, Rat.num_divInt_den] at e
  exact e
theorem sub_eq (p q : Rat) : p - q = Rat.divInt (p.num * q.den - q.num * p.den) (p.den * q.den) := by
  have h1 : (p.den : Int) ≠ 0 := by have := p.den_nz; omega
  have h2 : (q.den : Int) ≠ 0 := by have := q.den_nz; omega
  have e := Rat.divInt_sub_divInt p.num q.num h1 h2
  rw [Rat.num_divInt_den, Rat.num_divInt_den] at e
  exact e
theorem mul_eq (p q : Rat) : p * q = Rat.divInt (p.num * q.num) (p.den * q.den) := by
  have e := Rat.divInt_mul_divInt p.num q.num (d₁ := p.den) (d₂ := q.den)
  rw [Rat.num_divInt_den, Rat.num_divInt_den] at e
  exact e
theorem den_ne (q : Rat) : (q.den : Int) ≠ 0 := by have := q.den_nz; omega
theorem den2_ne (p q : Rat) : (p.den : Int) * q.den ≠ 0 := Int.mul_ne_zero (den_ne p) (den_ne q)
theorem Sz.add {n m : Nat} {p q : Rat} (h : Sz n p) (h' : Sz m q) : Sz (n + m + 1) (p + q) := by
  rw [add_eq]
  refine divInt_sz (den2_ne p q) ?_ ((h.2.mul h'.2).up (by omega))
  exact ((h.1.mul h'.2).add (h'.1.mul h.2)).up (by omega)
theorem Sz.sub {n m : Nat} {p q : Rat} (h : Sz n p) (h' : Sz m q) : Sz (n + m + 1) (p - q) := by
  rw [sub_eq]
  refine divInt_sz (den2_ne p q) ?_ ((h.2.mul h'.2).up (by omega))
  exact ((h.1.mul h'.2).sub (h'.1.mul h.2)).up (by omega)
theorem Sz.mul {n m : Nat} {p q : Rat} (h : Sz n p) (h' : Sz m q) : Sz (n + m) (p * q) := by
  rw [mul_eq]
  exact divInt_sz (den2_ne p q) (h.1.mul h'.1) (h.2.mul h'.2)

end PL
namespace PL
open PySem PySem.Spec PyProof.Rows L2
end PL
namespace PL
open PySem PySem.Spec PyProof.Rows L2
mutual
def tyD : Pv → Bool
  | .tup xs => tyDs xs
  | .ref _ => false
  | .ty _ => false
  | .non => true | .bl _ => true | .int _ => true | .str _ => true | .lst _ => true | .dct _ _ => true | .scr _ => true | .tpx _ => false
def tyDs : List Pv → Bool
  | [] => true
  | x :: xs => tyD x && tyDs xs
end
def isIntP : Pv → Bool
  | .int _ => true
  | _ => false
def pt (p : Rat × Rat) : Pv := .tup [fr p.1, fr p.2]
end PL
namespace PL
open PySem PySem.Spec PyProof.Rows L2
theorem at0 (x : Pv) (l : List Pv) : atI (x :: l) 0 = some x := by
  unfold atI ixN
  simp only [List.length_cons]
  rw [if_pos (by decide), if_pos (by omega)]
  rfl
theorem at1 (x y : Pv) (l : List Pv) : atI (x :: y :: l) 1 = some y := by
  unfold atI ixN
  simp only [List.length_cons]
  rw [if_pos (by decide), if_pos (by omega)]
  rfl
theorem fmod_bd {i j : Int} (h : 0 < j) : 0 ≤ i.fmod j ∧ i.fmod j < j := by
  rw [Int.fmod_eq_emod_of_nonneg _ (by omega)]
  exact ⟨Int.emod_nonneg _ (by omega), Int.emod_lt_of_pos _ h⟩
theorem fdiv_nn {i j : Int} (hi : 0 ≤ i) (h : 0 < j) : 0 ≤ i.fdiv j := Int.fdiv_nonneg hi (by omega)
theorem mulOk40 {i j : Int} (hi : 0 ≤ i) (h : i < 2 ^ 40) (hj : 0 ≤ j) (h' : j < 2 ^ 40) : IntMulOk i j := mulOk (n := 40) (m := 40) (by unfold szI; omega) (by unfold szI; omega) (by decide)
end PL
namespace PL
open PySem PySem.Spec PyProof.Rows L2
theorem at_of {xs : List Pv} {r : Int} (h0 : 0 ≤ r) (h : r < xs.length) : ∃ p, atI xs r = some p ∧ p ∈ xs := by
  obtain ⟨n, rfl⟩ : ∃ n : Nat, r = (n : Int) := ⟨r.toNat, by omega⟩
  have hn : n < xs.length := by omega
  exact ⟨xs[n], atI_nat (List.getElem?_eq_getElem hn), List.getElem_mem hn⟩
theorem at_ints {ns : List Int} {r : Int} {P : Int → Prop} (h0 : 0 ≤ r) (h : r < ns.length) (hP : ∀ n ∈ ns, P n) : ∃ n, atI (ns.map Pv.int) r = some (.int n) ∧ P n := by
  obtain ⟨p, e, hp⟩ := at_of (xs := ns.map Pv.int) h0 (by simpa using h)
  obtain ⟨n, hn, rfl⟩ := List.mem_map.mp hp
  exact ⟨n, e, hP n hn⟩
end PL

namespace PL
open PySem PySem.Spec PyProof.Rows L2
def Sh (n d : Nat) (p : Pv) : Prop := isD p = true ∧ (toD p).showable = true ∧ (toD p).shown.length ≤ n ∧ (toD p).depth ≤ d
def Shs (n d : Nat) (ps : List Pv) : Prop := isDs ps = true ∧ PyData.showableAll (toDs ps) = true ∧ piled (PyData.shownAll (toDs ps)) ≤ n ∧ PyData.depthAll (toDs ps) ≤ d
theorem Sh.up {n m d e : Nat} {p : Pv} (h : Sh n d p) (l : n ≤ m) (l' : d ≤ e) : Sh m e p := ⟨h.1, h.2.1, Nat.le_trans h.2.2.1 l, Nat.le_trans h.2.2.2 l'⟩
theorem Shs.nil {d : Nat} : Shs 0 d [] := ⟨rfl, rfl, Nat.le_refl 0, Nat.zero_le _⟩
theorem Shs.cons {n m d : Nat} {p : Pv} {ps : List Pv} (h : Sh n d p) (h' : Shs m d ps) : Shs (n + 2 + m) d (p :: ps) := by
  obtain ⟨a1, a2, a3, a4⟩ := h
  obtain ⟨b1, b2, b3, b4⟩ := h'
  refine ⟨?_, ?_, ?_, ?_⟩
  · show (isD p && isDs ps) = true
    rw [a1, b1]; rfl
  · show (PyData.showable (toD p) && PyData.showableAll (toDs ps)) = true
    rw [a2, b2]; rfl
  · show piled (PyData.shown (toD p) :: PyData.shownAll (toDs ps)) ≤ _
    rw [piled_cons]; omega
  · show max (PyData.depth (toD p)) (PyData.depthAll (toDs ps)) ≤ d
    omega
theorem Shs.map {α : Type} {f : α → Pv} {n d : Nat} : ∀ {xs : List α}, (∀ x ∈ xs, Sh n d (f x)) → Shs ((n + 2) * xs.length) d (xs.map f)
  | [], _ => Shs.nil
  | x :: xs, h => by
    have a := Shs.cons (h x List.mem_cons_self) (Shs.map fun y hy => h y (List.mem_cons_of_mem _ hy))
    rw [List.length_cons, Nat.mul_succ, Nat.add_comm]
    exact a
theorem tupText_le (ts : List Str) : (tupleText ts).length ≤ piled ts + 3 := by
  unfold tupleText
  rw [Str.length_append, Str.length_append]
  have h1 : (("(" : Str)).length = 1 := rfl
  have h2 : ((if (ts.length == 1) = true then ",)" else ")" : String) : Str).length ≤ 2 := by split <;> decide
  rw [h1]
  cases ts with
  | nil => 
    have h3 : (Str.join ", " []).length = 0 := rfl
    rw [h3, piled_nil]; omega
  | cons t ts =>
    have h3 := join_length_add (t :: ts) (by simp)
    omega
theorem textFrom_le : ∀ (ts : List Str) (k : Nat) (acc : Str), (textFrom k acc ts).length ≤ acc.length + piled ts
  | [], k, acc => by show acc.length ≤ _; omega
  | t :: ts, k, acc => by
    show (textFrom (k + 1) (acc ++ (if k > 0 then ", " else "" : String) ++ t) ts).length ≤ _
    have h := textFrom_le ts (k + 1) (acc ++ (if k > 0 then ", " else "" : String) ++ t)
    have h2 : ((if k > 0 then ", " else "" : String) : Str).length ≤ 2 := by split <;> decide
    rw [Str.length_append, Str.length_append] at h
    rw [piled_cons]
    omega
theorem listText_le (ts : List Str) : (listText ts).length ≤ piled ts + 2 := by
  unfold listText
  rw [Str.length_append]
  have h := textFrom_le ts 0 "["
  have h1 : (("[" : Str)).length = 1 := rfl
  have h2 : (("]" : Str)).length = 1 := rfl
  omega
theorem Sh.tup {n d : Nat} {xs : List Pv} (h : Shs n d xs) : Sh (n + 3) (d + 1) (.tup xs) :=
  ⟨h.1, h.2.1, Nat.le_trans (tupText_le _) (Nat.add_le_add_right h.2.2.1 3), Nat.succ_le_succ h.2.2.2⟩
theorem Sh.lst {n d : Nat} {xs : List Pv} (h : Shs n d xs) : Sh (n + 3) (d + 1) (.lst xs) :=
  ⟨h.1, h.2.1, Nat.le_trans (Nat.le_trans (listText_le _) (Nat.le_succ _)) (Nat.add_le_add_right h.2.2.1 3), Nat.succ_le_succ h.2.2.2⟩
theorem Sh.bl (b : Bool) {d : Nat} : Sh 5 d (.bl b) := ⟨rfl, rfl, by cases b <;> decide, Nat.zero_le _⟩
theorem Sh.non {d : Nat} : Sh 5 d .non := ⟨rfl, rfl, by decide, Nat.zero_le _⟩
theorem int_len {n : Nat} {i : Int} (h : szI n i) : (Str.ofString (toString i)).length ≤ n + 2 := by
  rw [PySem.ofString_length]
  have h' : i.natAbs.log2 < n + 1 := PySem.Flt.log2_lt_of (Nat.succ_pos n) (h.up (Nat.le_succ n))
  exact int_text_length_le (Nat.succ_pos n) h'
theorem Sh.int {n d : Nat} {i : Int} (h : szI n i) (l : n ≤ 1900) : Sh (n + 2) d (.int i) := by
  refine ⟨rfl, ?_, int_len h, Nat.zero_le _⟩
  have h' := (h.up (Nat.le_succ n))
  exact decide_eq_true (Nat.lt_of_lt_of_le (PySem.Flt.log2_lt_of (Nat.succ_pos n) h') (by omega))
theorem Sh.fr {n d : Nat} {q : Rat} (h : Sz n q) (l : n ≤ 1900) : Sh (2 * n + 11) (d + 1) (fr q) :=
  (Sh.tup (Shs.cons (Sh.int (d := d) h.1 l) (Shs.cons (Sh.int h.2 l) Shs.nil))).up (by omega) (Nat.le_refl _)
theorem Sh.pt {n d : Nat} {q : Rat × Rat} (h : Sz n q.1 ∧ Sz n q.2) (l : n ≤ 1900) : Sh (4 * n + 29) (d + 2) (pt q) :=
  (Sh.tup (Shs.cons (Sh.fr (d := d) h.1 l) (Shs.cons (Sh.fr h.2 l) Shs.nil))).up (by omega) (Nat.le_refl _)
theorem Sh.ok {n d : Nat} {p : Pv} (h : Sh n d p) (l : n ≤ 16000000) (l' : d ≤ 60) : okR p := ⟨by rw [h.1]; rfl, h.2.1, Nat.le_trans h.2.2.2 l', Nat.le_trans h.2.2.1 (Nat.le_trans l (by decide))⟩

mutual
theorem eqv_refl : ∀ p : Pv, isD p = true → PyData.eqv (toD p) (toD p) = true
  | .non, _ => rfl
  | .bl b, _ => by show (b == b) = true; simp
  | .int i, _ => by show (i == i) = true; simp
  | .str x, _ => by show (x == x) = true; simp
  | .tup xs, h => eqvs_refl xs h
  | .lst xs, h => eqvs_refl xs h
  | .scr xs, h => eqvs_refl xs h
  | .tpx _, h => by cases h
  | .dct _ _, h => by cases h
  | .ref _, h => by cases h
  | .ty _, h => by cases h
theorem eqvs_refl : ∀ ps : List Pv, isDs ps = true → PyData.eqvAll (toDs ps) (toDs ps) = true
  | [], _ => rfl
  | p :: ps, h => by
    have h' : isD p = true ∧ isDs ps = true := by simpa [isDs] using h
    show (PyData.eqv (toD p) (toD p) && PyData.eqvAll (toDs ps) (toDs ps)) = true
    rw [eqv_refl p h'.1, eqvs_refl ps h'.2]; rfl
end
end PL
namespace PL
open PySem PySem.Spec PyProof.Rows L2
@[simp] theorem ckL_put {S : Sto} {a : Addr} {xs : List Pv} : ckL (put S a (.lst xs)) (.ref a) = true := by simp [ckL, rdL]
@[simp] theorem rdL_put {S : Sto} {a : Addr} {xs : List Pv} : rdL (put S a (.lst xs)) (.ref a) = some xs := by simp [rdL]
@[simp] theorem rdM_put {S : Sto} {a : Addr} {xs : List Pv} : rdM (put S a (.lst xs)) (.ref a) = some xs := by simp [rdM]
@[simp] theorem top_put {S : Sto} {a : Addr} {xs : List Pv} : top (put S a (.lst xs)) (.ref a) = .lst xs := by simp [top]
theorem app_i {S : Sto} {a : Addr} {xs : List Pv} {p : Pv} {Q : QV} (h : S a = some (.lst xs)) (l : xs.length < sizeLine) (q : Q .non (put S a (.lst (xs ++ [p])))) : oAppend (.ref a) [p] S Q := by
  unfold oAppend
  show match S a with | some (.lst xs) => xs.length < sizeLine ∧ Q .non (put S a (.lst (xs ++ [p]))) | _ => False
  rw [h]
  exact ⟨l, q⟩
theorem app_w {S : Sto} {a : Addr} {xs ys : List Pv} {p : Pv} {Q : QV} (h : S a = some (.lst xs)) (l : xs.length < sizeLine) (e : xs ++ [p] = ys) (q : ∀ S', S' a = some (.lst ys) → (∀ b, b ≠ a → S' b = S b) → Q .non S') : oAppend (.ref a) [p] S Q := app_i h l (q _ (by rw [e]; exact put_same) fun b hb => put_ne hb)
theorem cnd_f {b : Bool} {p q : Prop} (e : b = false) (h : q) : cnd b p q := by rw [e]; exact h
end PL
namespace PL
open PySem PySem.Spec PyProof.Rows L2
abbrev Has (S S' : Sto) : Prop := ∀ b m, S b = some m → S' b = some m
theorem Has.put {S : Sto} {D : Addr} {m : Mo} (h : S D = none) : Has S (put S D m) := fun b n e => by
  rw [put_ne (fun z => by rw [z, h] at e; cases e)]; exact e
theorem lcW_pure {α : Type} {gd : Sto → Prop} {t : Tg} {tt : PFB} {te : PF} {ρ : Env'} {D : Addr} {Q : List Pv → Sto → Prop} {S : Sto} (g : α → Pv) (c : α → Bool) (f : α → Pv) (hD : S D = none) (hg : ∀ S', Has S S' → gd S') : ∀ (xs : List α) (acc : List Pv), acc.length + xs.length ≤ sizeLine →
    (∀ x ∈ xs, ∀ S', Has S S' → ∃ ρ2, bindT S' t (g x) ρ = some ρ2 ∧ (∀ kk : Bool → Sto → Prop, kk (c x) S' → tt ρ2 S' kk) ∧ (c x = true → ∀ k : QV, k (f x) S' → te ρ2 S' k)) → Q (acc ++ (xs.filter c).map f) S → lcW gd t tt te ρ D Q (xs.map g) acc S
  | [], acc, _, _, q => ⟨hg _ (Has.put hD), by simpa using q⟩
  | x :: xs, acc, l, h, q => by
    have l' : acc.length + (xs.length + 1) ≤ sizeLine := l
    refine ⟨hg _ (Has.put hD), ?_⟩
    obtain ⟨ρ2, e, h1, h2⟩ := h x List.mem_cons_self _ (Has.put (m := .lst acc) hD)
    rw [e]
    have hr := fun y hy => h y (List.mem_cons_of_mem x hy)
    refine h1 _ ?_
    cases hc : c x with
    | true =>
      refine h2 hc _ ⟨put_same, by omega, ?_⟩
      rw [del_put hD]
      refine lcW_pure g c f hD hg xs _ (by rw [List.length_append]; simp; omega) hr ?_
      rw [List.filter_cons, hc] at q
      simpa using q
    | false =>
      refine ⟨put_same, ?_⟩
      rw [del_put hD]
      refine lcW_pure g c f hD hg xs _ (by omega) hr ?_
      rw [List.filter_cons, hc] at q
      simpa using q
theorem lc_map {α : Type} {gd : Sto → Prop} {t : Tg} {te : PF} {ρ : Env'} {Q : List Pv → Sto → Prop} {S : Sto} {its : List Pv} (xs : List α) (g f : α → Pv) (e : its = xs.map g) (l : xs.length ≤ sizeLine) (hg : ∀ S', Has S S' → gd S') (h : ∀ x ∈ xs, ∀ S', Has S S' → ∃ ρ2, bindT S' t (g x) ρ = some ρ2 ∧ ∀ k : QV, k (f x) S' → te ρ2 S' k) (q : Q (xs.map f) S) : ∀ D, S D = none → lcW gd t fYes te ρ D Q its [] S :=
  fun D hD => by
    rw [e]
    exact lcW_pure g (fun _ => true) f hD hg xs [] (by simpa using l) (fun x hx S' hs => by
      obtain ⟨ρ2, e, h1⟩ := h x hx S' hs
      exact ⟨ρ2, e, fun kk h => h, fun _ k z => h1 k z⟩) (by rw [List.filter_eq_self.mpr (fun _ _ => rfl)]; exact q)
theorem lc_filter {α : Type} {gd : Sto → Prop} {t : Tg} {tt : PFB} {te : PF} {ρ : Env'} {Q : List Pv → Sto → Prop} {S : Sto} {its : List Pv} (xs : List α) (g : α → Pv) (c : α → Bool) (f : α → Pv) (e : its = xs.map g) (l : xs.length ≤ sizeLine) (hg : ∀ S', Has S S' → gd S')
    (h : ∀ x ∈ xs, ∀ S', Has S S' → ∃ ρ2, bindT S' t (g x) ρ = some ρ2 ∧ (∀ kk : Bool → Sto → Prop, kk (c x) S' → tt ρ2 S' kk) ∧ (c x = true → ∀ k : QV, k (f x) S' → te ρ2 S' k)) (q : Q ((xs.filter c).map f) S) : ∀ D, S D = none → lcW gd t tt te ρ D Q its [] S :=
  fun D hD => by
    rw [e]
    exact lcW_pure g c f hD hg xs [] (by simpa using l) h (by simpa using q)
end PL
namespace PL
open PySem PySem.Spec PyProof.Rows L2
end PL
namespace PL
open PySem PySem.Spec PyProof.Rows L2
theorem forW_acc {α : Type} {gd : Sto → Prop} {t : Tg} {b : PFS} {D : Ends'} (g : α → Pv) (all : List α) (I : List α → Env' → Sto → Prop) (fin : ∀ ρ S, I all ρ S → gd S ∧ D.nx ρ S)
    (step : ∀ (pre : List α) (x : α) (post : List α), pre ++ x :: post = all → ∀ (k : Env' → Sto → Prop), (∀ ρ S, I (pre ++ [x]) ρ S → k ρ S) → ∀ ρ S, I pre ρ S → gd S ∧ match bindT S t (g x) ρ with | some ρ' => b { nx := k, rt := D.rt, bk := D.nx, ct := k } ρ' S | none => False) :
    ∀ (pre xs : List α) (ρ : Env') (S : Sto), pre ++ xs = all → I pre ρ S → forW gd t b D (xs.map g) ρ S
  | pre, [], ρ, S, e, h => by
    rw [List.append_nil] at e
    subst e
    exact fin ρ S h
  | pre, x :: xs, ρ, S, e, h => step pre x xs e (forW gd t b D (xs.map g)) (fun ρ' S' h' => forW_acc g all I fin step (pre ++ [x]) xs ρ' S' (by rw [List.append_assoc]; exact e) h') ρ S h
end PL
namespace PL
open PySem PySem.Spec PyProof.Rows L2
theorem allBl_map {α : Type} (f : α → Bool) : ∀ xs : List α, allBl (xs.map fun x => .bl (f x)) = some (xs.map f)
  | [] => rfl
  | x :: xs => by
    show (allBl (xs.map fun x => .bl (f x))).map (f x :: ·) = _
    rw [allBl_map f xs]
    rfl
theorem all_i {α : Type} {S : Sto} {Q : QV} {f : α → Bool} {xs : List α} (q : Q (.bl ((xs.map f).all id)) S) : oAll [.lst (xs.map fun x => .bl (f x))] S Q := by
  show match (some (xs.map fun x => Pv.bl (f x))).bind allBl with | some bs => Q (.bl (bs.all id)) S | none => False
  rw [Option.bind_some, allBl_map]
  exact q
end PL
namespace PL
open PySem PySem.Spec PyProof.Rows L2
theorem lcW_indN {gd : Sto → Prop} {t : Tg} {te : PF} {ρ : Env'} {D : Addr} {Q : List Pv → Sto → Prop} (I : List Pv → Sto → Prop) (hg : ∀ S', gd S') (P : Pv → Prop) (N : Nat) (hN : N ≤ sizeLine) : ∀ (its acc : List Pv) (S : Sto), acc.length + its.length = N → (∀ x ∈ its, P x) → S D = none → I acc S → (∀ acc S, acc.length = N → S D = none → I acc S → Q acc S) →
    (∀ x, P x → ∀ acc S (k : QV), S D = none → I acc S → (∀ y S3, S3 D = some (.lst acc) → I (acc ++ [y]) (del S3 D) → k y S3) → ∃ ρ2, bindT (put S D (.lst acc)) t x ρ = some ρ2 ∧ te ρ2 (put S D (.lst acc)) k) → lcW gd t fYes te ρ D Q its acc S
  | [], acc, S, l, _, hD, h0, fin, _ => ⟨hg _, fin _ _ (by simpa using l) hD h0⟩
  | x :: xs, acc, S, l, hP, hD, h0, fin, st => by
    have l' : acc.length + (xs.length + 1) = N := l
    refine ⟨hg _, ?_⟩
    obtain ⟨ρ2, e, h⟩ := st x (hP x List.mem_cons_self) acc S (fun y S3 => S3 D = some (.lst acc) ∧ acc.length < sizeLine ∧ lcW gd t fYes te ρ D Q xs (acc ++ [y]) (del S3 D)) hD h0 (fun y S3 e i => ⟨e, by omega, lcW_indN I hg P N hN xs _ _ (by rw [List.length_append]; simp; omega) (fun y hy => hP y (List.mem_cons_of_mem _ hy)) del_same i fin st⟩)
    rw [e]
    exact h
end PL
namespace PL
open PySem PySem.Spec PyProof.Rows L2
theorem at_map {α : Type} {xs : List α} {f : α → Pv} {r : Int} {P : α → Prop} (h0 : 0 ≤ r) (h : r < xs.length) (hP : ∀ n ∈ xs, P n) : ∃ n, atI (xs.map f) r = some (f n) ∧ P n := by
  obtain ⟨p, e, hp⟩ := at_of (xs := xs.map f) h0 (by simpa using h)
  obtain ⟨n, hn, rfl⟩ := List.mem_map.mp hp
  exact ⟨n, e, hP n hn⟩
end PL

namespace PL
open PySem PySem.Spec PyProof.Rows L2
def SzP (n : Nat) (p : Rat × Rat) : Prop := Sz n p.1 ∧ Sz n p.2
theorem SzP.up {n m : Nat} {p : Rat × Rat} (h : SzP n p) (l : n ≤ m) : SzP m p := ⟨h.1.up l, h.2.up l⟩
theorem Sz.zero : Sz 1 (0 : Rat) := by unfold Sz szI; decide
theorem Sz.one : Sz 1 (1 : Rat) := by unfold Sz szI; decide
structure Mp where
  (a b c d e f : Rat)
def mp (w : Mp) : Pv := .tup [fr w.a, fr w.b, fr w.c, fr w.d, fr w.e, fr w.f]
structure SzM (n : Nat) (w : Mp) : Prop where
  (a : Sz n w.a) (b : Sz n w.b) (c : Sz n w.c) (d : Sz n w.d) (e : Sz n w.e) (f : Sz n w.f)
theorem SzM.up {n m : Nat} {w : Mp} (h : SzM n w) (l : n ≤ m) : SzM m w := ⟨h.a.up l, h.b.up l, h.c.up l, h.d.up l, h.e.up l, h.f.up l⟩
def ownR (w : Mp) : Rat := w.a * w.d - w.b * w.c
def ledR (w : Mp) (p : Rat × Rat) : Rat × Rat := (w.a * p.1 + w.b * p.2 + w.e, w.c * p.1 + w.d * p.2 + w.f)
def strR (w : Mp) : Mp := ⟨w.a, w.b, w.c, w.d, 0, 0⟩
def joinR (w o : Mp) : Mp := ⟨(ledR (strR o) (w.a, w.c)).1, (ledR (strR o) (w.b, w.d)).1, (ledR (strR o) (w.a, w.c)).2, (ledR (strR o) (w.b, w.d)).2, (ledR o (w.e, w.f)).1, (ledR o (w.e, w.f)).2⟩
def turnedR (w : Mp) : Mp := ⟨w.d / ownR w, 0 - w.b / ownR w, 0 - w.c / ownR w, w.a / ownR w, 0, 0⟩
def backR (w : Mp) : Mp := ⟨(turnedR w).a, (turnedR w).b, (turnedR w).c, (turnedR w).d, 0 - (ledR (turnedR w) (w.e, w.f)).1, 0 - (ledR (turnedR w) (w.e, w.f)).2⟩
theorem Sz.own {n : Nat} {w : Mp} (h : SzM n w) : Sz (4 * n + 1) (ownR w) := ((h.a.mul h.d).sub (h.b.mul h.c)).up (by omega)
theorem SzP.led {n m : Nat} {w : Mp} {p : Rat × Rat} (h : SzM n w) (h' : SzP m p) : SzP (3 * n + 2 * m + 2) (ledR w p) :=
  ⟨(((h.a.mul h'.1).add (h.b.mul h'.2)).add h.e).up (by omega), (((h.c.mul h'.1).add (h.d.mul h'.2)).add h.f).up (by omega)⟩
end PL

namespace PL
open PySem PySem.Spec PyProof.Rows L2
def cdS (ds : List Nat) : Str := ⟨(ds.map (· + 48)).toArray⟩
abbrev fg (d : Nat) : Pv := .str ⟨#[d + 48]⟩
theorem cd_chars (ds : List Nat) : chars (cdS ds) = ds.map fg := by
  unfold chars cdS
  simp [List.map_map]
theorem cd_len (ds : List Nat) : (cdS ds).length = ds.length := by
  unfold cdS Str.length
  simp
theorem cd_app (ds es : List Nat) : cdS ds ++ cdS es = cdS (ds ++ es) := by
  unfold cdS
  show Str.mk _ = _
  simp
theorem lt4 {d : Nat} (h : d < 4) : d = 0 ∨ d = 1 ∨ d = 2 ∨ d = 3 := by omega
def spN : List Nat → Nat × Nat
  | ds => ds.foldl (fun a d => (2 * a.1 + d % 2, 2 * a.2 + d / 2)) (0, 0)
theorem spN_snoc (ds : List Nat) (d : Nat) : spN (ds ++ [d]) = (2 * (spN ds).1 + d % 2, 2 * (spN ds).2 + d / 2) := by
  unfold spN
  rw [List.foldl_append]
  rfl
theorem spN_lt : ∀ (n : Nat) (ds : List Nat), ds.length = n → (∀ d ∈ ds, d < 4) → (spN ds).1 < 2 ^ n ∧ (spN ds).2 < 2 ^ n := by
  intro n
  induction n with
  | zero =>
    intro ds h _
    have : ds = [] := List.length_eq_zero_iff.mp h
    subst this
    decide
  | succ n ih =>
    intro ds h hd
    have hne : ds ≠ [] := by rintro rfl; simp at h
    obtain ⟨es, d, rfl⟩ : ∃ es d, ds = es ++ [d] := ⟨ds.dropLast, ds.getLast hne, (List.dropLast_concat_getLast hne).symm⟩
    have hl : es.length = n := by simpa using h
    have h1 := ih es hl (fun x hx => hd x (by simp [hx]))
    have h2 : d < 4 := hd d (by simp)
    rw [spN_snoc, Nat.pow_succ]
    constructor
    · show 2 * (spN es).1 + d % 2 < _
      omega
    · show 2 * (spN es).2 + d / 2 < _
      omega
theorem len_cd {S : Sto} {ds : List Nat} (h : ds.length ≤ 9) : lenP S (.str (cdS ds)) = some ds.length := by
  show (if (cdS ds).length ≤ sizeLine then some (cdS ds).length else none) = _
  rw [cd_len, if_pos (Nat.le_trans h (by decide))]
def dgN (c r b : Nat) : Nat := 2 * (r / 2 ^ b % 2) + c / 2 ^ b % 2
def cdN (c r : Nat) : Nat → List Nat
  | 0 => []
  | d + 1 => dgN c r d :: cdN c r d
theorem dgN_lt (c r b : Nat) : dgN c r b < 4 := by unfold dgN; omega
theorem cdN_lt (c r : Nat) : ∀ (n : Nat), ∀ d ∈ cdN c r n, d < 4
  | 0, d, h => by cases h
  | n + 1, d, h => by
    rcases List.mem_cons.mp h with rfl | h
    · exact dgN_lt c r n
    · exact cdN_lt c r n d h
theorem cdN_len (c r : Nat) : ∀ n : Nat, (cdN c r n).length = n
  | 0 => rfl
  | n + 1 => by show (cdN c r n).length + 1 = _; rw [cdN_len c r n]
theorem at_fig {d : Nat} (h : d < 4) : atI (Str.ofString "0123").cps.toList (d : Int) = some (d + 48) := by
  rcases lt4 h with rfl | rfl | rfl | rfl <;> decide +kernel
theorem allS_fg : ∀ ds : List Nat, allS (ds.map fg) = some (ds.map fun d => (⟨#[d + 48]⟩ : Str))
  | [] => rfl
  | d :: ds => by
    show (allS (ds.map fg)).map _ = _
    rw [allS_fg ds]
    rfl
theorem put_comm {S : Sto} {a b : Addr} {m n : Mo} (h : a ≠ b) : put (put S a m) b n = put (put S b n) a m := by
  funext c
  simp only [put]
  split
  · rename_i e; subst e; rw [if_neg (fun z => h z.symm)]
  · rfl
end PL

namespace PL
open PySem PySem.Spec PyProof.Rows L2
structure Pk (G : Mo → Prop) (S : Sto) (l : Addr) (S2 : Sto) : Prop where
  pen : ∃ m, S2 l = some m ∧ G m
  has : ∀ b o, b ≠ l → S b = some o → S2 b = some o
section
variable {G : Mo → Prop} {S S2 : Sto} {l a : Addr}
theorem Pk.refl {m : Mo} (h : S l = some m) (g : G m) : Pk G S l S := ⟨⟨m, h, g⟩, fun _ _ _ h => h⟩
theorem Pk.of (h : ∃ m, S l = some m ∧ G m) : Pk G S l S := ⟨h, fun _ _ _ h => h⟩
theorem Pk.new {m : Mo} (g : G m) : Pk G S l (put S l m) := ⟨⟨m, put_same, g⟩, fun b o h e => by rw [put_ne h]; exact e⟩
theorem Pk.draw {m : Mo} (k : Pk G S l S2) (g : G m) : Pk G S l (put S2 l m) := ⟨⟨m, put_same, g⟩, fun b o h e => by rw [put_ne h]; exact k.has b o h e⟩
theorem Pk.ne (k : Pk G S l S2) (h : S2 a = none) : a ≠ l := fun e => by
  obtain ⟨m, e1, _⟩ := k.pen
  rw [← e, h] at e1; cases e1
theorem Pk.ne' (k : Pk G S l S2) (h : S2 a = none) : S a = none := by
  cases e : S a with
  | none => rfl
  | some o => rw [k.has a o (k.ne h) e] at h; cases h
theorem Pk.put {x : Mo} (k : Pk G S l S2) (h : S a = none) (hl : a ≠ l) : Pk G S l (put S2 a x) := ⟨by
  obtain ⟨m, e, g⟩ := k.pen
  exact ⟨m, by rw [put_ne hl.symm]; exact e, g⟩, fun b o hb e => by
    rw [put_ne (fun z => by rw [z, h] at e; cases e)]
    exact k.has b o hb e⟩
theorem Pk.alloc {x : Mo} (k : Pk G S l S2) (h : S2 a = none) : Pk G S l (PL.put S2 a x) := k.put (k.ne' h) (k.ne h)
theorem Pk.del (k : Pk G S l S2) (h : S a = none) (hl : a ≠ l) : Pk G S l (del S2 a) := ⟨by
  obtain ⟨m, e, g⟩ := k.pen
  exact ⟨m, by rw [del_ne hl.symm]; exact e, g⟩, fun b o hb e => by
    rw [del_ne (fun z => by rw [z, h] at e; cases e)]
    exact k.has b o hb e⟩
theorem Pk.upd {S3 : Sto} (k : Pk G S l S2) (h : ∀ b, b ≠ a → S3 b = S2 b) (ha : S a = none) (hl : a ≠ l) : Pk G S l S3 := ⟨by
  obtain ⟨m, e, g⟩ := k.pen
  exact ⟨m, by rw [h l hl.symm]; exact e, g⟩, fun b o hb e => by
    rw [h b (fun z => by rw [z, ha] at e; cases e)]
    exact k.has b o hb e⟩
theorem Pk.trans {S3 : Sto} (k : Pk G S l S2) (k' : Pk G S2 l S3) : Pk G S l S3 := ⟨k'.pen, fun b o h e => k'.has b o h (k.has b o h e)⟩
theorem Pk.sub (k : Pk G S l S2) : ∃ m, G m ∧ Sub (PL.put S l m) S2 := by
  obtain ⟨m, e, g⟩ := k.pen
  refine ⟨m, g, fun b o h => ?_⟩
  by_cases hb : b = l
  · subst hb; rw [put_same] at h; cases h; exact e
  · rw [put_ne hb] at h; exact k.has b o hb h
theorem Pk.out {Q : QV} {p : Pv} (k : Pk G S l S2) (q : ∀ m, G m → Q p (PL.put S l m)) : Out Q p S2 := by
  obtain ⟨m, g, s⟩ := k.sub
  exact Out.less s (q m g)
theorem Pk.frz {Q : QV} {xs : List Pv} (k : Pk G S l S2) (ha : S a = none) (hl : a ≠ l) (h : S2 a = some (.lst xs)) (q : ∀ m, G m → Q (.lst xs) (PL.put S l m)) : Out Q (.ref a) S2 := by
  obtain ⟨m, g, s⟩ := (k.del ha hl).sub
  exact Out.frz h s (q m g)
end
def qq (n : Int) (d : Nat) (h : d ≠ 0 := by decide) (c : n.natAbs.Coprime d := by decide) : Rat := ⟨n, d, h, c⟩
theorem eqv_nil (ds : List PyData) : PyData.eqv (.list ds) (.list []) = ds.isEmpty := by
  cases ds <;> rfl
theorem Sh.str {n d : Nat} {x : Str} (h : x.length ≤ n) (hx : ∀ c ∈ x.cps.toList, c < 16 ^ 8) : Sh (10 * n + 2) d (.str x) :=
  ⟨rfl, rfl, Nat.le_trans (PySem.StrLaws.reprText_len x hx) (by omega), Nat.zero_le _⟩
theorem Sh.cd {n d : Nat} {ds : List Nat} (h : ds.length ≤ n) (hd : ∀ z ∈ ds, z < 4) : Sh (10 * n + 2) d (.str (cdS ds)) :=
  Sh.str (by rw [cd_len]; exact h) fun c hc => by
    have : c ∈ ds.map (· + 48) := by simpa [cdS] using hc
    obtain ⟨z, hz, rfl⟩ := List.mem_map.mp this
    have := hd z hz
    show z + 48 < _
    omega
theorem join_cd : ∀ ds : List Nat, Txt.join (Str.ofString "") (ds.map fun d => (⟨#[d + 48]⟩ : Str)) = cdS ds := by
  intro ds
  have e0 : Str.ofString "" = ⟨([] : List Nat).toArray⟩ := rfl
  rw [TL.join_eq]
  have main : ∀ (ds : List Nat), Str.join (Str.ofString "") (ds.map fun d => (⟨#[d + 48]⟩ : Str)) = cdS ds := by
    intro ds
    induction ds with
    | nil => rfl
    | cons d ds ih =>
      cases ds with
      | nil => rfl
      | cons d2 ds =>
        show ((⟨#[d + 48]⟩ : Str) ++ Str.ofString "") ++ Str.join (Str.ofString "") ((d2 :: ds).map fun d => (⟨#[d + 48]⟩ : Str)) = _
        rw [ih]
        exact cd_app [d] (d2 :: ds)
  exact main ds
end PL

namespace PL
open PySem PySem.Spec PyProof.Rows L2
def colN (q : Rat) (d : Nat) : Nat := (q.num * 2 ^ d / (64 * q.den)).toNat
theorem cdN_snoc (c r : Nat) : ∀ n : Nat, cdN c r (n + 1) = cdN (c / 2) (r / 2) n ++ [2 * (r % 2) + c % 2]
  | 0 => by
    show [dgN c r 0] = [2 * (r % 2) + c % 2]
    unfold dgN
    simp
  | n + 1 => by
    show dgN c r (n + 1) :: cdN c r (n + 1) = dgN (c / 2) (r / 2) n :: cdN (c / 2) (r / 2) n ++ _
    rw [cdN_snoc c r n]
    have : dgN c r (n + 1) = dgN (c / 2) (r / 2) n := by
      unfold dgN
      rw [Nat.div_div_eq_div_mul, Nat.div_div_eq_div_mul, Nat.pow_succ, Nat.mul_comm (2 ^ n) 2]
    rw [this]
    rfl
theorem spN_cdN (c r : Nat) : ∀ n : Nat, c < 2 ^ n → r < 2 ^ n → spN (cdN c r n) = (c, r) := by
  intro n
  induction n generalizing c r with
  | zero => intro h1 h2; rw [show c = 0 by omega, show r = 0 by omega]; rfl
  | succ n ih =>
    intro h1 h2
    rw [Nat.pow_succ] at h1 h2
    rw [cdN_snoc, spN_snoc, ih (c / 2) (r / 2) (by omega) (by omega)]
    show (2 * (c / 2) + _, 2 * (r / 2) + _) = _
    congr 1 <;> omega
end PL

namespace PL
open PySem PySem.Spec PyProof.Rows L2
def asc (x : Str) : Bool := x.cps.toList.all fun c => decide (c < 128)
mutual
def smP : Pv → Bool
  | .non => true | .bl _ => true | .int _ => true | .str x => decide (x.length ≤ 1000) && asc x | .tup xs => decide (xs.length ≤ 1000) && smPs xs | .lst _ => true | .dct _ _ => true | .scr _ => false | .tpx _ => false | .ref _ => false | .ty _ => false
def smPs : List Pv → Bool
  | [] => true
  | x :: xs => smP x && smPs xs
end
mutual
theorem smP_ty : ∀ p : Pv, smP p = true → tyD p = true
  | .non, _ => rfl | .bl _, _ => rfl | .int _, _ => rfl | .str _, _ => rfl | .lst _, _ => rfl | .dct _ _, _ => rfl
  | .tup xs, h => by
    have h : decide (xs.length ≤ 1000) = true ∧ smPs xs = true := by simpa [smP] using h
    exact smPs_ty xs h.2
  | .scr _, h => by cases h
  | .tpx _, h => by cases h
  | .ref _, h => by cases h
  | .ty _, h => by cases h
theorem smPs_ty : ∀ ps : List Pv, smPs ps = true → tyDs ps = true
  | [], _ => rfl
  | p :: ps, h => by
    have h : smP p = true ∧ smPs ps = true := by simpa [smPs] using h
    show (tyD p && tyDs ps) = true
    rw [smP_ty p h.1, smPs_ty ps h.2]; rfl
end
theorem smPs_mem : ∀ {ps : List Pv}, smPs ps = true → ∀ p ∈ ps, smP p = true
  | [], _, _, h => by cases h
  | q :: ps, h, p, hp => by
    have h : smP q = true ∧ smPs ps = true := by simpa [smPs] using h
    rcases List.mem_cons.mp hp with rfl | hp
    · exact h.1
    · exact smPs_mem h.2 p hp
theorem smP_tup {xs : List Pv} (h : smP (.tup xs) = true) : xs.length ≤ 1000 ∧ smPs xs = true := by simpa [smP] using h
theorem smP_str {x : Str} (h : smP (.str x) = true) : x.length ≤ 1000 := by
  have : decide (x.length ≤ 1000) = true ∧ asc x = true := by simpa [smP] using h
  exact of_decide_eq_true this.1
theorem smP_asc {x : Str} (h : smP (.str x) = true) : asc x = true := by
  have : decide (x.length ≤ 1000) = true ∧ asc x = true := by simpa [smP] using h
  exact this.2
theorem in_one (c : Nat) (z : Str) : inTxt ⟨#[c]⟩ z = decide (c ∈ z.cps.toList) := StrLaws.found_one z c
def smallC (c : Nat) : Bool := decide (97 ≤ c) && decide (c ≤ 122)
def figC (c : Nat) : Bool := decide (48 ≤ c) && decide (c ≤ 51)
theorem in_small (c : Nat) : inTxt ⟨#[c]⟩ (Str.ofString "abcdefghijklmnopqrstuvwxyz") = smallC c := by
  rw [in_one, show (Str.ofString "abcdefghijklmnopqrstuvwxyz").cps.toList = [97, 98, 99, 100, 101, 102, 103, 104, 105, 106, 107, 108, 109, 110, 111, 112, 113, 114, 115, 116, 117, 118, 119, 120, 121, 122] from rfl]
  unfold smallC
  rw [Bool.eq_iff_iff]
  simp only [List.mem_cons, List.not_mem_nil, or_false, decide_eq_true_eq, Bool.and_eq_true]
  omega
theorem in_fig (c : Nat) : inTxt ⟨#[c]⟩ (Str.ofString "0123") = figC c := by
  rw [in_one, show (Str.ofString "0123").cps.toList = [48, 49, 50, 51] from rfl]
  unfold figC
  rw [Bool.eq_iff_iff]
  simp only [List.mem_cons, List.not_mem_nil, or_false, decide_eq_true_eq, Bool.and_eq_true]
  omega
theorem len_str {S : Sto} {x : Str} (h : x.length ≤ 1000) : lenP S (.str x) = some x.length := by
  show (if x.length ≤ sizeLine then some x.length else none) = _
  rw [if_pos (Nat.le_trans h (by decide))]
theorem chars_map (x : Str) : chars x = x.cps.toList.map fun c => .str ⟨#[c]⟩ := rfl
theorem cut_tail (xs : List Pv) : cutP xs (some 1) none = xs.tail := by
  unfold cutP
  cases xs with
  | nil => rfl
  | cons x xs =>
    have e1 : HT.sIx (x :: xs).length 0 (some 1) = 1 := by
      show _ = _
      simp [HT.sIx]
    have e2 : HT.sIx (x :: xs).length (x :: xs).length none = (x :: xs).length := rfl
    rw [e1, e2, List.drop_one]
    exact List.take_of_length_le (by simp)
theorem zipP_zip : ∀ xs ys : List Pv, zipP xs ys = (xs.zip ys).map fun p => .tup [p.1, p.2]
  | [], _ => rfl
  | _ :: _, [] => rfl
  | x :: xs, y :: ys => by
    show Pv.tup [x, y] :: zipP xs ys = _
    rw [zipP_zip xs ys]
    rfl
def wordS (x : Str) : Bool := (decide (1 ≤ x.length) && decide (x.length ≤ 8)) && x.cps.toList.all smallC
def wordP : Pv → Bool
  | .str x => wordS x
  | _ => false
def dayP : Pv → Bool
  | .int i => decide (0 ≤ i)
  | _ => false
def codeS (x : Str) : Bool := decide (x.length ≤ 9) && x.cps.toList.all figC
def codeP : Pv → Bool
  | .str x => codeS x
  | _ => false
def tupN (n : Nat) : Pv → Bool
  | .tup ys => decide (ys.length = n)
  | _ => false
def rowP (a b : Nat) (n : Nat) : Pv → Bool
  | .tup xs => (decide (a ≤ xs.length) && decide (xs.length ≤ b)) && xs.all (tupN n)
  | _ => false
def ltP : Pv → Pv → Bool
  | .int i, .int j => decide (i < j)
  | .str a, .str b => strLt a b
  | .tup xs, .tup ys => PySem.W.dataLt (toD (.tup xs)) (toD (.tup ys))
  | _, _ => false
def kindS (xs : List Pv) : Prop := (∃ ss : List Str, xs = ss.map .str) ∨ ∃ is : List Int, xs = is.map .int
def risP (xs : List Pv) : Bool := (xs.zip xs.tail).all fun p => ltP p.1 p.2
abbrev preS (x y : Str) : Bool := Txt.startswith y x
theorem preS_iff (x y : Str) : preS x y = true ↔ x.cps.toList <+: y.cps.toList := by
  unfold preS Txt.startswith
  rw [StrLaws.subAt_eq, List.drop_zero, Bool.and_eq_true, decide_eq_true_eq, beq_iff_eq]
  show 0 + x.cps.toList.length ≤ y.cps.toList.length ∧ y.cps.toList.take x.cps.toList.length = x.cps.toList ↔ _
  rw [List.prefix_iff_eq_take]
  constructor
  · rintro ⟨_, h⟩
    exact h.symm
  · intro h
    refine ⟨?_, h.symm⟩
    have := congrArg List.length h
    rw [List.length_take] at this
    omega
theorem lex_pre : ∀ {p t y : List Nat}, p < y → ¬ p ++ t < y → p <+: y
  | [], _, _, _, _ => List.nil_prefix
  | a :: p, t, [], h, _ => absurd h (List.not_lt_nil _)
  | a :: p, t, b :: y, h, h2 => by
    rw [List.cons_lt_cons_iff] at h
    rw [List.cons_append, List.cons_lt_cons_iff] at h2
    rcases h with h | ⟨rfl, h⟩
    · exact absurd (.inl h) h2
    · have := lex_pre h fun z => h2 (.inr ⟨rfl, z⟩)
      exact List.cons_prefix_cons.mpr ⟨rfl, this⟩
theorem strLt_iff (a b : Str) : strLt a b = true ↔ a.cps.toList < b.cps.toList := decide_eq_true_iff
theorem strLt_trans {a b c : Str} (h : strLt a b = true) (h' : strLt b c = true) : strLt a c = true := by
  rw [strLt_iff] at *
  exact List.lt_trans h h'
theorem strLt_irr (a : Str) : strLt a a = false := by
  cases h : strLt a a with
  | false => rfl
  | true => exact absurd ((strLt_iff a a).mp h) (List.lt_irrefl _)
theorem str_ext {a b : Str} (h : a.cps.toList = b.cps.toList) : a = b := by
  cases a; cases b
  congr 1
  exact Array.toList_inj.mp h
def apart (a b : Str) : Bool := strLt a b && !preS a b
theorem apart_trans {a b c : Str} (h : apart a b = true) (h' : apart b c = true) : apart a c = true := by
  unfold apart at *
  simp only [Bool.and_eq_true, Bool.not_eq_true'] at *
  refine ⟨strLt_trans h.1 h'.1, ?_⟩
  cases q : preS a c with
  | false => rfl
  | true =>
    have h1 := (preS_iff a c).mp q
    obtain ⟨t, ht⟩ := h1
    have h2 := (strLt_iff a b).mp h.1
    have h3 := (strLt_iff b c).mp h'.1
    have : a.cps.toList <+: b.cps.toList := lex_pre (t := t) h2 (by
      rw [ht]
      exact fun z => List.lt_irrefl _ (List.lt_trans z h3))
    have := (preS_iff a b).mpr this
    rw [this] at h
    cases h.2
theorem adj_pw {α : Type} {r : α → α → Bool} (tr : ∀ a b c, r a b = true → r b c = true → r a c = true) : ∀ xs : List α, (xs.zip xs.tail).all (fun p => r p.1 p.2) = true ↔ xs.Pairwise fun a b => r a b = true
  | [] => by simp
  | [x] => by simp
  | x :: y :: zs => by
    have ih := adj_pw tr (y :: zs)
    show ((r x y && ((y :: zs).zip (y :: zs).tail).all fun p => r p.1 p.2) = true) ↔ _
    rw [Bool.and_eq_true, ih, List.pairwise_cons (a := x)]
    constructor
    · rintro ⟨h1, h2⟩
      refine ⟨fun z hz => ?_, h2⟩
      rcases List.mem_cons.mp hz with rfl | hz
      · exact h1
      · exact tr _ _ _ h1 ((List.pairwise_cons.mp h2).1 z hz)
    · rintro ⟨h1, h2⟩
      exact ⟨h1 y List.mem_cons_self, h2⟩
def leS (a b : Str) : Bool := decide (a.cps.toList ≤ b.cps.toList)
def sortS (xs : List Str) : List Str := xs.mergeSort leS
theorem sortP_str (xs : List Str) : sortP (xs.map .str) = (sortS xs).map .str := by
  unfold sortP sortS
  rw [List.map_mergeSort (s := PySem.W.dataLe false toD) (f := Pv.str)]
  intro a _ b _
  have := congrFun (congrFun (PySem.W.dataLe_str (k := fun s : Str => s)) a) b
  exact this.symm
theorem leS_total (a b : Str) : (leS a b || leS b a) = true := by
  unfold leS
  rw [Bool.or_eq_true, decide_eq_true_eq, decide_eq_true_eq]
  exact List.le_total _ _
theorem leS_trans (a b c : Str) (h : leS a b = true) (h' : leS b c = true) : leS a c = true := by
  unfold leS at *
  rw [decide_eq_true_eq] at *
  exact List.le_trans h h'
theorem sortS_pw (xs : List Str) : (sortS xs).Pairwise fun a b => leS a b = true := List.pairwise_mergeSort leS_trans leS_total xs
theorem leS_lt {a b : Str} (h : leS a b = true) (hn : a ≠ b) : strLt a b = true := by
  unfold leS at h
  rw [decide_eq_true_eq] at h
  rw [strLt_iff]
  apply Decidable.byContradiction
  intro z
  exact hn (str_ext (List.le_antisymm h (List.not_lt.mp z)))
theorem allS_str : ∀ ss : List Str, allS (ss.map Pv.str) = some ss
  | [] => rfl
  | s :: ss => by
    show (allS (ss.map Pv.str)).map (s :: ·) = _
    rw [allS_str ss]; rfl
theorem allS_is : ∀ {xs : List Pv} {ss : List Str}, allS xs = some ss → xs = ss.map Pv.str
  | [], ss, h => by
    have : [] = ss := by simpa [allS] using h
    rw [← this]; rfl
  | .str x :: xs, ss, h => by
    simp only [allS, Option.map_eq_some_iff] at h
    obtain ⟨ts, e, rfl⟩ := h
    rw [allS_is e]; rfl
  | .non :: _, _, h => by simp [allS] at h
  | .bl _ :: _, _, h => by simp [allS] at h
  | .int _ :: _, _, h => by simp [allS] at h
  | .tup _ :: _, _, h => by simp [allS] at h
  | .lst _ :: _, _, h => by simp [allS] at h
  | .scr _ :: _, _, h => by simp [allS] at h
  | .tpx _ :: _, _, h => by simp [allS] at h
  | .dct _ _ :: _, _, h => by simp [allS] at h
  | .ref _ :: _, _, h => by simp [allS] at h
  | .ty _ :: _, _, h => by simp [allS] at h
def isStrP : Pv → Bool
  | .str _ => true
  | _ => false
theorem allS_none : ∀ {xs : List Pv}, allS xs = none ↔ xs.all isStrP = false
  | [] => by simp [allS]
  | .str x :: xs => by
    have ih := allS_none (xs := xs)
    simp only [allS, Option.map_eq_none_iff, List.all_cons, isStrP, Bool.true_and]
    exact ih
  | .non :: _ => by simp [allS, isStrP]
  | .bl _ :: _ => by simp [allS, isStrP]
  | .int _ :: _ => by simp [allS, isStrP]
  | .tup _ :: _ => by simp [allS, isStrP]
  | .lst _ :: _ => by simp [allS, isStrP]
  | .scr _ :: _ => by simp [allS, isStrP]
  | .tpx _ :: _ => by simp [allS, isStrP]
  | .dct _ _ :: _ => by simp [allS, isStrP]
  | .ref _ :: _ => by simp [allS, isStrP]
  | .ty _ :: _ => by simp [allS, isStrP]
def codeN (n : Nat) (x : Str) : Bool := codeS x && decide (x.length ≤ n)
def codesS (n : Nat) (ss : List Str) : Bool := ss.all (codeN n) && (ss.zip ss.tail).all fun p => apart p.1 p.2
def codesP (n : Nat) : Pv → Bool
  | .tup xs => match allS xs with
    | some ss => codesS n ss
    | none => false
  | _ => false
def codeNP (n : Nat) : Pv → Bool
  | .str x => codeN n x
  | _ => false
theorem bl_list {α : Type} {S : Sto} {f : α → Bool} {xs : List α} : (rdL S (.lst (xs.map fun x => Pv.bl (f x)))).bind allBl = some (xs.map f) := by
  show (some (xs.map fun x => Pv.bl (f x))).bind allBl = _
  rw [Option.bind_some, allBl_map]
theorem all_j {α : Type} {S : Sto} {Q : QV} {f : α → Bool} {xs : List α} (q : Q (.bl (xs.all f)) S) : oAll [.lst (xs.map fun x => .bl (f x))] S Q := all_i (by rw [List.all_map]; exact q)
theorem risP_str (ss : List Str) : risP (ss.map .str) = (ss.zip ss.tail).all fun p => strLt p.1 p.2 := by
  unfold risP
  rw [← List.map_tail, List.zip_map, List.all_map]
  rfl
theorem adj_apart (ss : List Str) : (ss.zip ss.tail).all (fun p => apart p.1 p.2) = ((ss.zip ss.tail).all (fun p => strLt p.1 p.2) && !(ss.zip ss.tail).any fun p => preS p.1 p.2) := by
  unfold apart
  generalize ss.zip ss.tail = ps
  induction ps with
  | nil => rfl
  | cons p ps ih =>
    rw [List.all_cons, List.all_cons, List.any_cons, ih]
    cases strLt p.1 p.2 <;> cases preS p.1 p.2 <;> simp
end PL

namespace PL
open PySem PySem.Spec PyProof.Rows L2
mutual
def fine : Pv → Bool
  | .non => true | .bl _ => true | .int i => decide (i.natAbs.log2 < 1900) | .str x => asc x | .tup xs => fines xs | .lst xs => fines xs | .dct ks vs => ks.isEmpty && vs.isEmpty | .scr _ => false | .tpx _ => false | .ref _ => false | .ty _ => false
def fines : List Pv → Bool
  | [] => true
  | x :: xs => fine x && fines xs
end
mutual
def wt : Pv → Nat
  | .non => 5 | .bl _ => 5 | .int i => i.natAbs.log2 + 4 | .str x => 10 * x.length + 2 | .tup xs => wts xs + 3 | .lst xs => wts xs + 3 | .dct _ _ => 5 | .scr _ => 0 | .tpx _ => 0 | .ref _ => 0 | .ty _ => 0
def wts : List Pv → Nat
  | [] => 0
  | x :: xs => wt x + 2 + wts xs
end
mutual
def dpP : Pv → Nat
  | .tup xs => dpPs xs + 1 | .lst xs => dpPs xs + 1 | .dct _ _ => 1 | .non => 0 | .bl _ => 0 | .int _ => 0 | .str _ => 0 | .scr _ => 0 | .tpx _ => 0 | .ref _ => 0 | .ty _ => 0
def dpPs : List Pv → Nat
  | [] => 0
  | x :: xs => max (dpP x) (dpPs xs)
end
theorem asc_lt {x : Str} (h : asc x = true) : ∀ c ∈ x.cps.toList, c < 128 := fun c hc => of_decide_eq_true (List.all_eq_true.mp h c hc)
theorem int_shown (i : Int) (h : i.natAbs.log2 < 1900) : Sh (i.natAbs.log2 + 4) 0 (.int i) := by
  have h2 : i.natAbs < 2 ^ (i.natAbs.log2 + 1) := by
    by_cases h0 : i.natAbs = 0
    · rw [h0]; decide
    · exact Nat.lt_log2_self
  have := Sh.int (n := i.natAbs.log2 + 1) (d := 0) h2 (by omega)
  exact this.up (by omega) (Nat.le_refl _)
mutual
theorem shown_le : ∀ p : Pv, fine p = true → (toD p).showable = true ∧ (toD p).shown.length ≤ wt p ∧ (toD p).depth ≤ dpP p
  | .non, _ => ⟨rfl, by decide, Nat.le_refl _⟩
  | .bl b, _ => ⟨rfl, by cases b <;> decide, Nat.le_refl _⟩
  | .int i, h => by
    have h : i.natAbs.log2 < 1900 := of_decide_eq_true h
    have := int_shown i h
    exact ⟨this.2.1, this.2.2.1, Nat.le_refl _⟩
  | .str x, h => by
    have hx := Sh.str (d := 0) (Nat.le_refl x.length) fun c hc => Nat.lt_trans (asc_lt h c hc) (by decide)
    exact ⟨hx.2.1, hx.2.2.1, Nat.le_refl _⟩
  | .tup xs, h => by
    obtain ⟨h1, h2, h3⟩ := shownAll_le xs h
    exact ⟨h1, Nat.le_trans (tupText_le _) (Nat.add_le_add_right h2 3), Nat.succ_le_succ h3⟩
  | .lst xs, h => by
    obtain ⟨h1, h2, h3⟩ := shownAll_le xs h
    exact ⟨h1, Nat.le_trans (listText_le _) (Nat.add_le_add h2 (by decide)), Nat.succ_le_succ h3⟩
  | .dct ks vs, h => ⟨rfl, show (PyData.dict []).shown.length ≤ 5 by decide, show (PyData.dict []).depth ≤ 1 by decide⟩
  | .scr _, h => by cases h
  | .tpx _, h => by cases h
  | .ref _, h => by cases h
  | .ty _, h => by cases h
theorem shownAll_le : ∀ ps : List Pv, fines ps = true → PyData.showableAll (toDs ps) = true ∧ piled (PyData.shownAll (toDs ps)) ≤ wts ps ∧ PyData.depthAll (toDs ps) ≤ dpPs ps
  | [], _ => ⟨rfl, Nat.le_refl _, Nat.le_refl _⟩
  | p :: ps, h => by
    have h : fine p = true ∧ fines ps = true := by simpa [fines] using h
    obtain ⟨a1, a2, a3⟩ := shown_le p h.1
    obtain ⟨b1, b2, b3⟩ := shownAll_le ps h.2
    refine ⟨?_, ?_, ?_⟩
    · show ((toD p).showable && PyData.showableAll (toDs ps)) = true
      rw [a1, b1]; rfl
    · show piled ((toD p).shown :: PyData.shownAll (toDs ps)) ≤ wt p + 2 + wts ps
      rw [piled_cons]
      omega
    · show max (toD p).depth (PyData.depthAll (toDs ps)) ≤ max (dpP p) (dpPs ps)
      omega
end
structure Thing (n d : Nat) (p : Pv) : Prop where
  sm : smP p = true
  fn : fine p = true
  wt : wt p ≤ n
  dp : dpP p ≤ d
theorem Thing.up {n m d e : Nat} {p : Pv} (h : Thing n d p) (l : n ≤ m) (l' : d ≤ e) : Thing m e p := ⟨h.sm, h.fn, Nat.le_trans h.wt l, Nat.le_trans h.dp l'⟩
theorem Thing.ok {n d : Nat} {p : Pv} (h : Thing n d p) (de : (isD p || isE p) = true) (l : n ≤ 16000000) (l' : d ≤ 60) : okR p := by
  obtain ⟨h1, h2, h3⟩ := shown_le p h.fn
  exact ⟨de, h1, Nat.le_trans (Nat.le_trans h3 h.dp) l', Nat.le_trans (Nat.le_trans (Nat.le_trans h2 h.wt) l) (by decide)⟩
structure Things (n d : Nat) (ps : List Pv) : Prop where
  sm : smPs ps = true
  fn : fines ps = true
  wt : wts ps ≤ n
  dp : dpPs ps ≤ d
theorem Things.nil {n d : Nat} : Things n d [] := ⟨rfl, rfl, Nat.zero_le _, Nat.zero_le _⟩
theorem Things.cons {n m d : Nat} {p : Pv} {ps : List Pv} (h : Thing n d p) (h' : Things m d ps) : Things (n + 2 + m) d (p :: ps) := by
  refine ⟨?_, ?_, ?_, ?_⟩
  · show (smP p && smPs ps) = true; rw [h.sm, h'.sm]; rfl
  · show (fine p && fines ps) = true; rw [h.fn, h'.fn]; rfl
  · show PL.wt p + 2 + wts ps ≤ _
    have := h.wt
    have := h'.wt
    omega
  · show max (dpP p) (dpPs ps) ≤ _
    have := h.dp
    have := h'.dp
    omega
theorem Things.uncons {n d : Nat} {p : Pv} {ps : List Pv} (h : Things n d (p :: ps)) : Thing n d p ∧ Things n d ps ∧ PL.wt p + 2 + wts ps ≤ n := by
  obtain ⟨h1, h2, h3, h4⟩ := h
  have h1 : smP p = true ∧ smPs ps = true := by simpa [smPs] using h1
  have h2 : fine p = true ∧ fines ps = true := by simpa [fines] using h2
  have h3 : PL.wt p + 2 + wts ps ≤ n := h3
  have h4 : max (dpP p) (dpPs ps) ≤ d := h4
  exact ⟨⟨h1.1, h2.1, by omega, by omega⟩, ⟨h1.2, h2.2, by omega, by omega⟩, h3⟩
theorem Things.up {n m d e : Nat} {ps : List Pv} (h : Things n d ps) (l : n ≤ m) (l' : d ≤ e) : Things m e ps := ⟨h.sm, h.fn, Nat.le_trans h.wt l, Nat.le_trans h.dp l'⟩
theorem Things.app {d : Nat} : ∀ {n m : Nat} {ps qs : List Pv}, Things n d ps → Things m d qs → Things (n + m) d (ps ++ qs)
  | n, m, [], qs, _, h => h.up (by omega) (Nat.le_refl _)
  | n, m, p :: ps, qs, h, h' => by
    obtain ⟨a, b, c⟩ := h.uncons
    have b' : Things (wts ps) d ps := ⟨b.sm, b.fn, Nat.le_refl _, b.dp⟩
    have a' : Thing (PL.wt p) d p := ⟨a.sm, a.fn, Nat.le_refl _, a.dp⟩
    exact (Things.cons a' (Things.app b' h')).up (by omega) (Nat.le_refl _)
theorem Things.take {d : Nat} : ∀ {n : Nat} {ps : List Pv} (k : Nat), Things n d ps → Things n d (ps.take k)
  | n, [], k, h => by rw [List.take_nil]; exact h
  | n, p :: ps, 0, h => Things.nil
  | n, p :: ps, k + 1, h => by
    obtain ⟨a, b, c⟩ := h.uncons
    have b' : Things (wts ps) d ps := ⟨b.sm, b.fn, Nat.le_refl _, b.dp⟩
    have a' : Thing (PL.wt p) d p := ⟨a.sm, a.fn, Nat.le_refl _, a.dp⟩
    exact (Things.cons a' (b'.take k)).up (by omega) (Nat.le_refl _)
theorem Things.drop {d : Nat} : ∀ {n : Nat} {ps : List Pv} (k : Nat), Things n d ps → Things n d (ps.drop k)
  | n, [], k, h => by rw [List.drop_nil]; exact h
  | n, p :: ps, 0, h => h
  | n, p :: ps, k + 1, h => by
    obtain ⟨a, b, c⟩ := h.uncons
    exact (b.drop k)
theorem Things.mem {d : Nat} : ∀ {n : Nat} {ps : List Pv}, Things n d ps → ∀ p ∈ ps, Thing n d p
  | n, [], h, p, hp => by cases hp
  | n, q :: ps, h, p, hp => by
    obtain ⟨a, b, c⟩ := h.uncons
    rcases List.mem_cons.mp hp with rfl | hp
    · exact a
    · exact b.mem p hp
theorem Things.of {n d : Nat} : ∀ {ps : List Pv}, (∀ p ∈ ps, Thing n d p) → Things ((n + 2) * ps.length) d ps
  | [], _ => Things.nil
  | p :: ps, h => (Things.cons (h p List.mem_cons_self) (Things.of fun q hq => h q (List.mem_cons_of_mem _ hq))).up (by rw [List.length_cons, Nat.mul_succ]; omega) (Nat.le_refl _)
theorem Thing.tup {n d : Nat} {ps : List Pv} (h : Things n d ps) (l : ps.length ≤ 1000) : Thing (n + 3) (d + 1) (.tup ps) := by
  refine ⟨?_, h.fn, Nat.add_le_add_right h.wt 3, Nat.succ_le_succ h.dp⟩
  show (decide (ps.length ≤ 1000) && smPs ps) = true
  rw [decide_eq_true l, h.sm]; rfl
theorem Thing.lst {n d : Nat} {ps : List Pv} (h : Things n d ps) : Thing (n + 3) (d + 1) (.lst ps) := ⟨rfl, h.fn, Nat.add_le_add_right h.wt 3, Nat.succ_le_succ h.dp⟩
theorem Thing.un {n d : Nat} {ps : List Pv} (h : Thing n (d + 1) (.tup ps)) : Things n d ps ∧ ps.length ≤ 1000 := by
  obtain ⟨h1, h2, h3, h4⟩ := h
  obtain ⟨a, b⟩ := smP_tup h1
  have h3 : wts ps + 3 ≤ n := h3
  exact ⟨⟨b, h2, by omega, Nat.le_of_succ_le_succ h4⟩, a⟩
theorem Thing.str {n d : Nat} {x : Str} (h : asc x = true) (l : x.length ≤ n) (l2 : n ≤ 1000) : Thing (10 * n + 2) d (.str x) := by
  refine ⟨?_, h, ?_, Nat.zero_le _⟩
  · show (decide (x.length ≤ 1000) && asc x) = true
    rw [h, decide_eq_true (show x.length ≤ 1000 by omega)]; rfl
  · show 10 * x.length + 2 ≤ _
    omega
theorem Thing.int {n d : Nat} {i : Int} (h : szI n i) (l : n ≤ 1800) : Thing (n + 4) d (.int i) := by
  have hl : i.natAbs.log2 < n + 1 := PySem.Flt.log2_lt_of (Nat.succ_pos n) (h.up (Nat.le_succ n))
  exact ⟨rfl, decide_eq_true (show i.natAbs.log2 < 1900 by omega), show i.natAbs.log2 + 4 ≤ n + 4 by omega, Nat.zero_le _⟩
theorem isDs_iff : ∀ {ps : List Pv}, isDs ps = true ↔ ∀ p ∈ ps, isD p = true
  | [] => by simp [isDs]
  | p :: ps => by
    have ih := isDs_iff (ps := ps)
    simp only [isDs, Bool.and_eq_true, ih, List.mem_cons, forall_eq_or_imp]
theorem isEs_iff : ∀ {ps : List Pv}, isEs ps = true ↔ ∀ p ∈ ps, isE p = true
  | [] => by simp [isEs]
  | p :: ps => by
    have ih := isEs_iff (ps := ps)
    simp only [isEs, Bool.and_eq_true, ih, List.mem_cons, forall_eq_or_imp]
theorem asc_ok {x : Str} (h : asc x = true) : PyData.strOk x = true := by
  unfold PyData.strOk
  rw [Array.all_eq_true']
  intro c hc
  exact decide_eq_true (Nat.lt_trans (asc_lt h c (by simpa using hc)) (by decide))
mutual
theorem lay_of : ∀ p : Pv, isD p = true → fine p = true → PyData.canLay0 (toD p) = true
  | .non, _, _ => rfl
  | .bl _, _, _ => rfl
  | .int _, _, _ => rfl
  | .str x, _, h => asc_ok h
  | .tup xs, d, h => lays_of xs d h
  | .lst xs, d, h => lays_of xs d h
  | .scr _, _, h => by cases h
  | .tpx _, _, h => by cases h
  | .dct _ _, d, _ => by cases d
  | .ref _, d, _ => by cases d
  | .ty _, d, _ => by cases d
theorem lays_of : ∀ ps : List Pv, isDs ps = true → fines ps = true → PyData.canLayAll0 (toDs ps) = true
  | [], _, _ => rfl
  | p :: ps, d, h => by
    have d : isD p = true ∧ isDs ps = true := by simpa [isDs] using d
    have h : fine p = true ∧ fines ps = true := by simpa [fines] using h
    show (PyData.canLay0 (toD p) && PyData.canLayAll0 (toDs ps)) = true
    rw [lay_of p d.1 h.1, lays_of ps d.2 h.2]; rfl
end
theorem okD_of {p : Pv} (d : isD p = true) (h : fine p = true) (l : dpP p ≤ 60) : okD p = true := by
  unfold okD SeqAt.shaped
  rw [d, lay_of p d h, decide_eq_true (Nat.le_trans (shown_le p h).2.2 (Nat.le_trans l (by decide)))]
  rfl
theorem eqv_nilT (ds : List PyData) : PyData.eqv (.tuple ds) (.tuple []) = ds.isEmpty := by
  cases ds <;> rfl
theorem dpPs_flat {α : Type} {f : α → Pv} (h : ∀ x, dpP (f x) = 0) : ∀ xs : List α, dpPs (xs.map f) = 0
  | [] => rfl
  | x :: xs => by show max (dpP (f x)) (dpPs (xs.map f)) = 0; rw [h x, dpPs_flat h xs]; rfl
theorem fines_str : ∀ ss : List Str, (∀ s ∈ ss, asc s = true) → fines (ss.map Pv.str) = true
  | [], _ => rfl
  | s :: ss, h => by
    show (asc s && fines (ss.map Pv.str)) = true
    rw [h s List.mem_cons_self, fines_str ss fun t ht => h t (List.mem_cons_of_mem _ ht)]; rfl
theorem okD_lstr {ss : List Str} (h : ∀ s ∈ ss, asc s = true) : okD (.lst (ss.map Pv.str)) = true := by
  refine okD_of (isDs_map (fun _ => rfl) ss) (fines_str ss h) ?_
  show dpPs (ss.map Pv.str) + 1 ≤ 60
  rw [dpPs_flat (fun _ => rfl)]; decide
def sortI (xs : List Int) : List Int := xs.mergeSort fun a b => decide (a ≤ b)
theorem sortP_int (xs : List Int) : sortP (xs.map .int) = (sortI xs).map .int := by
  unfold sortP sortI
  rw [List.map_mergeSort (s := PySem.W.dataLe false toD) (f := Pv.int)]
  intro a _ b _
  have := congrFun (congrFun (PySem.W.dataLe_int (k := fun s : Int => s)) a) b
  exact this.symm
theorem sortI_eq {xs : List Int} : sortI xs = xs ↔ xs.Pairwise fun a b => a ≤ b := by
  have tr : ∀ a b c : Int, decide (a ≤ b) = true → decide (b ≤ c) = true → decide (a ≤ c) = true := by
    intro a b c h h'
    rw [decide_eq_true_eq] at *
    omega
  have to : ∀ a b : Int, (decide (a ≤ b) || decide (b ≤ a)) = true := by
    intro a b
    rw [Bool.or_eq_true, decide_eq_true_eq, decide_eq_true_eq]
    omega
  constructor
  · intro h
    rw [← h]
    exact (List.pairwise_mergeSort tr to xs).imp fun {a b} z => of_decide_eq_true z
  · intro h
    exact List.mergeSort_of_pairwise (h.imp fun {a b} z => decide_eq_true z)
def Pn2 (m : Mo) : Prop := ∃ d f : Int, m = .lst [.int d, .int f] ∧ 0 ≤ d
end PL

namespace PL
open PySem PySem.Spec PyProof.Rows L2
def neT : Pv → Bool
  | .tup [] => false
  | _ => true
def mvQ : Pv → Bool
  | .tup [d, c, r] => dayP d && ((codesP 4 c && neT c) && wordP r)
  | _ => false
def dayI : Pv → Int
  | .tup (.int d :: _) => d
  | _ => 0
def nonfall (is : List Int) : Bool := (is.zip is.tail).all fun p => decide (p.1 ≤ p.2)
def movesP : Pv → Bool
  | .tup ms => decide (ms.length ≤ 24) && (ms.all mvQ && nonfall (ms.map dayI))
  | _ => false
def tup3 (t : Pv × Pv × Pv) : Pv := .tup [t.1, t.2.1, t.2.2]
theorem tup3_of : ∀ {ms : List Pv}, ms.all (tupN 3) = true → ∃ ts : List (Pv × Pv × Pv), ms = ts.map tup3
  | [], _ => ⟨[], rfl⟩
  | m :: ms, h => by
    have h : tupN 3 m = true ∧ ms.all (tupN 3) = true := by simpa using h
    obtain ⟨ts, rfl⟩ := tup3_of h.2
    cases m with
    | tup ys =>
      match ys, h.1 with
      | [a, b, c], _ => exact ⟨(a, b, c) :: ts, rfl⟩
      | [], h => simp [tupN] at h
      | [_], h => simp [tupN] at h
      | [_, _], h => simp [tupN] at h
      | _ :: _ :: _ :: _ :: _, h => simp [tupN] at h
    | _ => simp [tupN] at h
theorem mvQ_3 {m : Pv} (h : mvQ m = true) : tupN 3 m = true := by
  cases m with
  | tup ys =>
    match ys, h with
    | [a, b, c], _ => rfl
    | [], h => cases h
    | [_], h => cases h
    | [_, _], h => cases h
    | _ :: _ :: _ :: _ :: _, h => cases h
  | _ => cases h
theorem codes_strs {n : Nat} {c : Pv} (h : codesP n c = true) : ∃ ss : List Str, c = .tup (ss.map .str) ∧ codesS n ss = true := by
  cases c with
  | tup xs =>
    have h : (match allS xs with | some ss => codesS n ss | none => false) = true := h
    cases hS : allS xs with
    | none => rw [hS] at h; cases h
    | some ss => rw [hS] at h; exact ⟨ss, by rw [allS_is hS], h⟩
  | _ => cases h
theorem fines_strs : ∀ ss : List Str, (∀ s ∈ ss, asc s = true) → fines (ss.map Pv.str) = true
  | [], _ => rfl
  | s :: ss, h => by
    show (asc s && fines (ss.map Pv.str)) = true
    rw [h s List.mem_cons_self, fines_strs ss fun t ht => h t (List.mem_cons_of_mem _ ht)]; rfl
theorem dpPs_strs : ∀ ss : List Str, dpPs (ss.map Pv.str) = 0
  | [] => rfl
  | s :: ss => by show max 0 (dpPs (ss.map Pv.str)) = 0; rw [dpPs_strs ss]; rfl
theorem okD_strs {ss : List Str} (h : smP (.tup (ss.map .str)) = true) : okD (.tup (ss.map .str)) = true := by
  obtain ⟨_, hs⟩ := smP_tup h
  refine okD_of (isDs_map (fun _ => rfl) ss) (fines_strs ss fun s hs2 => smP_asc (smPs_mem hs (.str s) (List.mem_map.mpr ⟨s, hs2, rfl⟩))) ?_
  show dpPs (ss.map Pv.str) + 1 ≤ 60
  rw [dpPs_strs]; decide
def plainT (x : Pv) : Prop := smP x = true ∧ (isD x = true ∧ fine x = true ∧ dpP x ≤ 60 ∨ x = .dct [] [])
theorem nonfall_iff (is : List Int) : nonfall is = decide (is = sortI is) := by
  have e := adj_pw (r := fun a b : Int => decide (a ≤ b)) (fun a b c h h' => by rw [decide_eq_true_eq] at *; omega) is
  unfold nonfall
  rw [Bool.eq_iff_iff, e, decide_eq_true_eq]
  constructor
  · intro z
    exact (sortI_eq.mpr (z.imp fun {a b} w => of_decide_eq_true w)).symm
  · intro z
    exact (sortI_eq.mp z.symm).imp fun {a b} w => decide_eq_true w
theorem codeN_cd {n : Nat} {ds : List Nat} (h4 : ∀ d ∈ ds, d < 4) (hl : ds.length ≤ n) (h9 : n ≤ 9) : codeN n (cdS ds) = true := by
  unfold codeN codeS
  rw [cd_len, decide_eq_true (show ds.length ≤ 9 by omega), decide_eq_true hl]
  have : (cdS ds).cps.toList.all figC = true := by
    show (ds.map (· + 48)).all figC = true
    rw [List.all_map]
    refine List.all_eq_true.mpr fun d hd => ?_
    have := h4 d hd
    show (decide (48 ≤ d + 48) && decide (d + 48 ≤ 51)) = true
    rw [decide_eq_true (by omega), decide_eq_true (by omega)]; rfl
  rw [this]; rfl
theorem codeN_asc {n : Nat} {x : Str} (h : codeN n x = true) : asc x = true ∧ x.length ≤ n ∧ x.length ≤ 9 := by
  unfold codeN codeS at h
  simp only [Bool.and_eq_true, decide_eq_true_eq] at h
  refine ⟨List.all_eq_true.mpr fun c hc => ?_, h.2, h.1.1⟩
  have := List.all_eq_true.mp h.1.2 c hc
  unfold figC at this
  simp only [Bool.and_eq_true, decide_eq_true_eq] at this
  exact decide_eq_true (by omega)
def nbr (a b : Str) : Prop := preS a b = false ∧ preS b a = false
theorem apart_of {ss : List Str} (h : ss.Pairwise nbr) : (sortS ss).Pairwise fun a b => apart a b = true := by
  have h1 := sortS_pw ss
  have h2 : (sortS ss).Pairwise nbr := ((List.mergeSort_perm ss leS).pairwise_iff fun {a b} z => ⟨z.2, z.1⟩).mpr h
  refine (h1.and h2).imp fun {a b} z => ?_
  unfold apart
  rw [z.2.1, leS_lt z.1 (fun e => by
    have := z.2.1
    rw [e] at this
    rw [(preS_iff b b).mpr (List.prefix_refl _)] at this
    cases this)]
  rfl
mutual
def shP : Pv → Bool
  | .tup xs => decide (xs.length ≤ 100) && shPs xs
  | .non => true | .bl _ => true | .int _ => true | .str _ => true | .lst _ => true | .dct _ _ => true | .scr _ => true | .tpx _ => true | .ref _ => true | .ty _ => true
def shPs : List Pv → Bool
  | [] => true
  | x :: xs => shP x && shPs xs
end
theorem shPs_iff : ∀ {ps : List Pv}, shPs ps = true ↔ ∀ p ∈ ps, shP p = true
  | [] => by simp [shPs]
  | p :: ps => by
    have ih := shPs_iff (ps := ps)
    simp only [shPs, Bool.and_eq_true, ih, List.mem_cons, forall_eq_or_imp]
theorem shP_tup {xs : List Pv} (h : shP (.tup xs) = true) : xs.length ≤ 100 ∧ ∀ p ∈ xs, shP p = true := by
  have : decide (xs.length ≤ 100) = true ∧ shPs xs = true := by simpa [shP] using h
  exact ⟨of_decide_eq_true this.1, shPs_iff.mp this.2⟩
structure MvOk (m : Pv) : Prop where
  q : mvQ m = true
  th : Thing 500 2 m
  d : isD m = true
  e : isE m = true
  sh : shP m = true
theorem isEs_map {α : Type} {f : α → Pv} (h : ∀ x, isE (f x) = true) : ∀ xs : List α, isEs (xs.map f) = true
  | [] => rfl
  | x :: xs => by show (isE (f x) && isEs (xs.map f)) = true; rw [h x, isEs_map h xs]; rfl
theorem codes_thing {ss : List Str} (h : codesS 4 ss = true) (hl : ss.length ≤ 6) : Thing 300 1 (.tup (ss.map .str)) := by
  have hc : ∀ s ∈ ss, codeN 4 s = true := by
    have : ss.all (codeN 4) = true := by
      unfold codesS at h
      exact (Bool.and_eq_true_iff.mp h).1
    exact List.all_eq_true.mp this
  have hT : ∀ p ∈ ss.map Pv.str, Thing 42 0 p := by
    intro p hp
    obtain ⟨s, hs, rfl⟩ := List.mem_map.mp hp
    obtain ⟨h1, h2, _⟩ := codeN_asc (hc s hs)
    exact Thing.str (n := 4) h1 h2 (by decide)
  have := Things.of hT
  rw [List.length_map] at this
  refine (Thing.tup (this.up (m := 264) ?_ (Nat.le_refl _)) (by rw [List.length_map]; omega)).up (by decide) (Nat.le_refl _)
  have : (42 + 2) * ss.length ≤ 44 * 6 := Nat.mul_le_mul_left _ hl
  omega
theorem mvOk {d : Int} {ss : List Str} {w : Str} (h0 : 0 ≤ d) (hd : szI 80 d) (hs : codesS 4 ss = true) (hne : ss ≠ []) (hl : ss.length ≤ 6) (hw : wordS w = true) : MvOk (.tup [.int d, .tup (ss.map .str), .str w]) := by
  have hw2 : asc w = true ∧ w.length ≤ 8 := by
    unfold wordS at hw
    simp only [Bool.and_eq_true, decide_eq_true_eq] at hw
    refine ⟨List.all_eq_true.mpr fun c hc => ?_, hw.1.2⟩
    have := List.all_eq_true.mp hw.2 c hc
    unfold smallC at this
    simp only [Bool.and_eq_true, decide_eq_true_eq] at this
    exact decide_eq_true (by omega)
  refine ⟨?_, ?_, ?_, ?_, ?_⟩
  · show (decide (0 ≤ d) && (((match allS (ss.map .str) with | some ss => codesS 4 ss | none => false) && neT (.tup (ss.map .str))) && wordS w)) = true
    rw [allS_str, decide_eq_true h0, hw]
    show (true && ((codesS 4 ss && _) && true)) = true
    rw [hs]
    cases ss with
    | nil => exact absurd rfl hne
    | cons _ _ => rfl
  · refine (Thing.tup (Things.cons (Thing.int (d := 1) hd (by decide)) (Things.cons (codes_thing hs hl) (Things.cons (Thing.str (n := 8) hw2.1 hw2.2 (by decide)) (Things.nil (n := 0))))) (by show 3 ≤ 1000; decide)).up (by decide) (Nat.le_refl _)
  · show (true && (isDs (ss.map .str) && (true && true))) = true
    rw [isDs_map (fun _ => rfl)]; rfl
  · show (true && (isEs (ss.map .str) && (true && true))) = true
    rw [isEs_map (fun _ => rfl)]; rfl
  · show (true && (true && ((decide ((ss.map Pv.str).length ≤ 100) && shPs (ss.map .str)) && (true && true)))) = true
    rw [decide_eq_true (by rw [List.length_map]; omega), shPs_iff.mpr (fun p hp => by
      obtain ⟨s, _, rfl⟩ := List.mem_map.mp hp
      rfl)]
    rfl
structure MovesOk (p : Pv) : Prop where
  q : movesP p = true
  th : Thing 13000 3 p
  d : isD p = true
  e : isE p = true
  sh : shP p = true
theorem movesOk {ms : List Pv} (h : ∀ m ∈ ms, MvOk m) (hl : ms.length ≤ 24) (hp : (ms.map dayI).Pairwise (· ≤ ·)) : MovesOk (.tup ms) := by
  refine ⟨?_, ?_, isDs_iff.mpr fun m hm => (h m hm).d, isEs_iff.mpr fun m hm => (h m hm).e, ?_⟩
  · show (decide (ms.length ≤ 24) && (ms.all mvQ && nonfall (ms.map dayI))) = true
    rw [decide_eq_true hl, List.all_eq_true.mpr fun m hm => (h m hm).q, nonfall_iff, decide_eq_true (sortI_eq.mpr hp).symm]; rfl
  · have := Things.of fun m hm => (h m hm).th
    refine (Thing.tup (this.up (m := 12900) ?_ (Nat.le_refl _)) (by omega)).up (by decide) (Nat.le_refl _)
    have : (500 + 2) * ms.length ≤ 502 * 24 := Nat.mul_le_mul_left _ hl
    omega
  · show (decide (ms.length ≤ 100) && shPs ms) = true
    rw [decide_eq_true (by omega), shPs_iff.mpr fun m hm => (h m hm).sh]; rfl
theorem cut_len (ps : List Pv) (lo hi : Option Int) : (cutP ps lo hi).length ≤ ps.length := by
  unfold cutP
  rw [List.length_take, List.length_drop]
  omega
theorem cut_mem {ps : List Pv} {lo hi : Option Int} {p : Pv} (h : p ∈ cutP ps lo hi) : p ∈ ps := List.mem_of_mem_drop (List.mem_of_mem_take h)
def ThOk (p : Pv) : Prop := okR p ∧ plainT p
theorem Thing.tho {n d : Nat} {p : Pv} (h : Thing n d p) (hd : isD p = true) (l : n ≤ 16000000) (l' : d ≤ 60) : ThOk p := ⟨h.ok (by rw [hd]; rfl) l l', h.sm, .inl ⟨hd, h.fn, Nat.le_trans h.dp l'⟩⟩
end PL

namespace PLS
open PySem PySem.Spec PyProof.Rows L2
section
variable {P : Program} {w : World} {A : Around} {E : Value → Shared → Prop} {s : Shared}
mutual
theorem hashBy_key : ∀ (k : NestedKey) (v : Value) (n : Nat) (A : Around) (E : Value → Shared → Prop) (Q : Bool → Shared → Prop), NestedIs s.heap k v → (∀ b, Q b s) → wpAny (model P w) A (hashByValue n v) Q E s
  | .none, _, n, A, E, Q, x, h => by cases x; cases n <;> exact wpAny_pure (h _)
  | .num i, _, n, A, E, Q, x, h => by cases x <;> cases n <;> exact wpAny_pure (h _)
  | .text y, _, n, A, E, Q, x, h => by cases x; cases n <;> exact wpAny_pure (h _)
  | .tup ks, _, n, A, E, Q, x, h => by
    cases x with
    | @tup a o vs m _ hg hc hd hk =>
      cases n with
      | zero => exact wpAny_pure (h _)
      | succ n =>
        unfold hashByValue
        refine wpAny_bind (wpAny_specialOf ⟨o, hg, hc⟩ F.slot_tuple_hash.lookup ?_)
        show wpAny _ _ (seqItems? (.ref a) >>= _) _ _ s
        refine wpAny_bind (wpAny_seqItems hg hd ?_)
        refine wpAny_bind ?_
        show wpAny _ _ (forIn vs _ _) _ _ s
        rw [← Array.forIn_toList]
        refine hashBy_keys ks vs.toList n A E _ hk fun r => ?_
        obtain ⟨r1, r2⟩ := r
        cases r1 with
        | none => exact wpAny_pure (h _)
        | some b => exact wpAny_pure (h _)
theorem hashBy_keys : ∀ (ks : List NestedKey) (vs : List Value) (n : Nat) (A : Around) (E : Value → Shared → Prop) (Q : Option Bool × Unit → Shared → Prop), NestedAll s.heap ks vs → (∀ r, Q r s) →
    wpAny (model P w) A (forIn vs ((none, ()) : Option Bool × Unit) fun x r => do if !(← hashByValue n x) then pure (ForInStep.done (some false, ())) else pure (ForInStep.yield (none, ()))) Q E s
  | [], _, n, A, E, Q, x, h => by cases x; exact wpAny_pure (h _)
  | k :: ks, _, n, A, E, Q, x, h => by
    cases x with
    | cons x1 x2 =>
      rw [List.forIn_cons]
      refine wpAny_bind (wpAny_bind (hashBy_key k _ n A E _ x1 fun b => ?_))
      cases b with
      | false => exact wpAny_pure (wpAny_pure (h _))
      | true => exact wpAny_pure (hashBy_keys ks _ n A E Q x2 h)
end

mutual
theorem ofAClass_key : ∀ (k : NestedKey) (v : Value) (n : Nat) (A : Around) (E : Value → Shared → Prop) (Q : Bool → Shared → Prop), NestedIs s.heap k v → k.depth ≤ n → Q false s → wpAny (model P w) A (ofAClassStatement n v) Q E s
  | .none, _, n, A, E, Q, x, _, h => by cases x; cases n <;> exact wpAny_pure h
  | .num i, _, n, A, E, Q, x, _, h => by cases x <;> cases n <;> exact wpAny_pure h
  | .text y, _, n, A, E, Q, x, _, h => by cases x; cases n <;> exact wpAny_pure h
  | .tup ks, _, n, A, E, Q, x, hn, h => by
    cases x with
    | @tup a o vs m _ hg hc hd hk =>
      cases n with
      | zero => exact absurd hn (by rw [NestedKey.depth]; omega)
      | succ n =>
        unfold ofAClassStatement
        refine wpAny_bind (wpAny_typeOf ⟨o, hg, hc⟩ ?_)
        dsimp only
        have e : (("tuple" : String) == "tuple") = true := by decide
        simp only [e, if_true, Bool.not_true, Bool.false_eq_true, if_false]
        try refine wpAny_bind (wpAny_pure ?_)
        try simp only [Bool.not_true, Bool.false_eq_true, if_false]
        show wpAny _ _ (seqItems? (.ref a) >>= _) _ _ s
        refine wpAny_bind (wpAny_seqItems hg hd ?_)
        dsimp only
        refine wpAny_bind ?_
        show wpAny _ _ (forIn vs _ _) _ _ s
        rw [← Array.forIn_toList]
        refine ofAClass_keys ks vs.toList n A E _ hk (by rw [NestedKey.depth] at hn; omega) ?_
        exact wpAny_pure h
theorem ofAClass_keys : ∀ (ks : List NestedKey) (vs : List Value) (n : Nat) (A : Around) (E : Value → Shared → Prop) (Q : Option Bool × Unit → Shared → Prop), NestedAll s.heap ks vs → NestedKey.depthAll ks ≤ n → Q (none, ()) s →
    wpAny (model P w) A (forIn vs ((none, ()) : Option Bool × Unit) fun x r => do if (← ofAClassStatement n x) then pure (ForInStep.done (some true, ())) else pure (ForInStep.yield (none, ()))) Q E s
  | [], _, n, A, E, Q, x, _, h => by cases x; exact wpAny_pure h
  | k :: ks, _, n, A, E, Q, x, hn, h => by
    cases x with
    | cons x1 x2 =>
      rw [NestedKey.depthAll] at hn
      rw [List.forIn_cons]
      refine wpAny_bind (wpAny_bind (ofAClass_key k _ n A E _ x1 (by omega) ?_))
      exact wpAny_pure (ofAClass_keys ks _ n A E Q x2 (by omega) h)
end
structure TK (h : Heap) (k : NestedKey) (v : Value) : Prop where
  is : NestedIs h k v
  deep : k.depth ≤ 8
  ref : ∃ b, v = .ref b
theorem TK.keep {h h' : Heap} {k : NestedKey} {v : Value} (x : TK h k v) (hk : ∀ a o vs n, h.get? a = some o → o.data = .seq vs n → h'.get? a = some o) : TK h' k v := ⟨x.is.at hk, x.deep, x.ref⟩
theorem TK.same {h h' : Heap} {k : NestedKey} {v : Value} {a : Addr} {o : Obj} {es : Array (Int × Value)} {ep : Nat} {t : SetTable} (x : TK h k v) (ho : h.get? a = some o) (hd : o.data = .set es ep t) (hs : Heap.SameBut a h h') : TK h' k v :=
  x.keep fun b ob vs n hb hq => (hs.2 b fun e => by
    rw [e, ho] at hb
    cases hb
    rw [hd] at hq
    cases hq).trans hb
theorem seen_key {k : NestedKey} {v : Value} {Q : Bool → Shared → Prop} (hk : TK s.heap k v) {ys : List Value} (hy : ∀ y ∈ ys, ∃ k', TK s.heap k' y) (h : Q false s) :
    wpAny (model P w) A (searchCouldBeSeen v ys) Q E s := by
  obtain ⟨b, rfl⟩ := hk.ref
  unfold searchCouldBeSeen
  refine wpAny_bind ?_
  refine wpAny_forIn_list _ (fun rest r s' => r.1 = none ∧ s' = s ∧ ∀ y ∈ rest, ∃ k', TK s.heap k' y) _ ?_ ?_ _ _ ⟨rfl, rfl, hy⟩
  · rintro v rest r s' ⟨hr, rfl, hall⟩
    obtain ⟨k', hc⟩ := hall v List.mem_cons_self
    obtain ⟨c, rfl⟩ := hc.ref
    have rest' : ∀ y ∈ rest, ∃ k', TK s'.heap k' y := fun u hu' => hall u (List.mem_cons_of_mem _ hu')
    dsimp only
    by_cases hv : (b == c || (carriedByValue (.ref b) && carriedByValue (.ref c))) = true
    · refine wp_if_pos hv ?_
      exact wpAny_pure ⟨rfl, rfl, rest'⟩
    · refine wp_if_neg hv ?_
      refine wpAny_bind (quiet_key k _ 8 s' hk.is hk.deep A E _ ?_)
      simp only [Bool.not_true, Bool.false_eq_true, if_false]
      refine wpAny_bind (quiet_key k' _ 8 s' hc.is hc.deep A E _ ?_)
      simp only [Bool.not_true, Bool.false_eq_true, if_false]
      refine wpAny_bind (ofAClass_key k _ 8 A E _ hk.is hk.deep ?_)
      simp only [Bool.false_eq_true, if_false]
      refine wpAny_bind (ofAClass_key k' _ 8 A E _ hc.is hc.deep ?_)
      simp only [Bool.false_eq_true, if_false]
      exact wpAny_pure ⟨rfl, rfl, rest'⟩
  · rintro ⟨r1, r2⟩ s' ⟨hr, rfl, _⟩
    simp only at hr
    subst hr
    exact wpAny_pure h
abbrev Es := List (Value × NestedKey)
abbrev nh (w : World) (k : NestedKey) : Int := k.hash w
def rws (w : World) (L : Es) : List (Int × Value) := L.map fun p => (nh w p.2, p.1)
structure SetP (w : World) (h : Heap) (a : Addr) (L : Es) (es : Array (Int × Value)) (ep : Nat) (t : SetTable) : Prop where
  ob : ∃ o, h.get? a = some o ∧ o.ExactSet ∧ o.data = .set es ep t
  rows : es.toList = rws w L
  tab : TabOk t (L.map fun p => nh w p.2)
  nd : (L.map (·.2)).Nodup
  led : w.params.followText "set-order" = true ∨ t.led = true
  room : L.length * 5 < t.mask * 3
  few : L.length < 76
  tup : ∀ p ∈ L, TK h p.2 p.1
variable {a : Addr} {L : Es} {es : Array (Int × Value)} {ep : Nat} {t : SetTable}
theorem SetP.size {h : Heap} (R : SetP w h a L es ep t) : es.size = L.length := by
  have h := congrArg List.length R.rows
  unfold rws at h
  rw [Array.length_toList, List.length_map] at h
  exact h
theorem SetP.fits {h : Heap} (R : SetP w h a L es ep t) : t.fits es.size = true := by
  have h1 := R.tab.sz
  rw [List.length_map] at h1
  have h2 := R.size
  have h3 := R.room
  unfold SetTable.fits SetTable.fill
  rw [R.tab.dm, Bool.and_eq_true, beq_iff_eq, decide_eq_true_eq]
  show t.place.size = es.size ∧ t.place.size + 0 ≤ t.mask
  omega
theorem SetP.entry {h : Heap} (R : SetP w h a L es ep t) {i : Nat} {p : Value × NestedKey} (h : L[i]? = some p) : es[i]? = some (nh w p.2, p.1) := by
  rw [← Array.getElem?_toList, R.rows]
  unfold rws
  rw [List.getElem?_map, h] <;> rfl
theorem SetP.gw {h : Heap} (R : SetP w h a L es ep t) : ¬ t.gaveWay = true := by
  unfold SetTable.gaveWay
  rw [mask_odd R.tab.mok]
  decide
abbrev go0 (m : Nat) (h : Int) : SetTable.Probe := runAt m (SetTable.bits h % (m + 1)) (SetTable.bits h)
theorem nth_dm (m : Nat) : ∀ (n : Nat) (p : SetTable.Probe), p.dummy = none → (nth m p n).dummy = none
  | 0, _, h => h
  | n + 1, p, h => nth_dm m n (adv m p) (by unfold adv; split <;> exact h)
theorem look (R : SetP w s.heap a L es ep t) {x : Value} {k : NestedKey} (hx : TK s.heap k x) (hu : A.units + 8 < cLine) {K : Nat} (hKf : K < 10 * SetTable.turns t.mask)
    (hK : way t.mask (nh w k) K ∉ t.place.toList) (hKb : ∀ c, c < K → way t.mask (nh w k) c ∈ t.place.toList) {Q : SetFound → Shared → Prop}
    (hin : k ∈ L.map (·.2) → Q (.there none) s) (hout : k ∉ L.map (·.2) → Q (.free (way t.mask (nh w k) K) false) s) :
    ∀ (f c : Nat) (stand : Option SetTable.Probe), stand.getD (t.probeStart (nh w k)) = nth t.mask (go0 t.mask (nh w k)) c → c ≤ K → K - c < f →
      (∀ (i : Nat) p, L[i]? = some p → p.2 = k → ∃ c', c ≤ c' ∧ c' < K ∧ t.place.toList[i]? = some (way t.mask (nh w k) c')) →
      wpAny (model P w) A (setSearchFrom a x (nh w k) true f stand) Q E s
  | 0, c, stand, _, _, hf, _ => absurd hf (Nat.not_lt_zero _)
  | f + 1, c, stand, hst, hc, hf, hre => by
    obtain ⟨o, ho, hex, hd⟩ := R.ob
    rw [setSearchFrom_succ]
    refine wpAny_bind (wpAny_setState_of ho hd R.fits ?_)
    dsimp only
    refine wp_if_neg R.gw ?_
    try refine wpAny_bind (wpAny_pure ?_)
    have hnd := nth_dm t.mask c (go0 t.mask (nh w k)) rfl
    have sh : ∀ q, nth t.mask (nth t.mask (go0 t.mask (nh w k)) c) q = nth t.mask (go0 t.mask (nh w k)) (c + q) := fun q => (nth_add t.mask c _ q).symm
    have e1 : ∀ q, (nth t.mask (nth t.mask (go0 t.mask (nh w k)) c) q).j = way t.mask (nh w k) (c + q) := fun q => congrArg SetTable.Probe.j (sh q)
    have spec := go_spec t R.tab.ris R.tab.dm (fun i => (es[i]?.map (·.1)).getD 0) (nh w k) (10 * SetTable.turns t.mask) (K - c) _ hnd (by omega)
      (fun q hq => by rw [e1]; exact hKb (c + q) (by omega)) (by rw [e1, show c + (K - c) = K by omega]; exact hK)
    have hashAt : ∀ (i : Nat) p, L[i]? = some p → (fun i => (es[i]?.map (·.1)).getD 0) i = nh w p.2 := fun i p hp => by
      show (es[i]?.map (·.1)).getD 0 = _
      rw [R.entry hp] <;> rfl
    rcases spec with ⟨q, i, hq, hi, hh, hno, hpr⟩ | ⟨hno, hpr⟩
    · have hpr' : t.probe (fun i => (es[i]?.map (·.1)).getD 0) (nh w k) (stand.getD (t.probeStart (nh w k))) = some (.candidate (way t.mask (nh w k) (c + q)) i (nth t.mask (go0 t.mask (nh w k)) (c + (q + 1)))) := by
        rw [hst, ← e1, ← sh]
        exact hpr
      rw [hpr']
      dsimp only
      rw [e1] at hi
      have hil : i < L.length := by
        have h1 : i < t.place.toList.length := (List.getElem?_eq_some_iff.mp hi).1
        have h2 := R.tab.sz
        rw [List.length_map] at h2
        rw [Array.length_toList] at h1
        omega
      have hp : L[i]? = some L[i] := List.getElem?_eq_getElem hil
      generalize hpe : L[i] = p at hp
      have hmem : p ∈ L := List.mem_of_getElem? hp
      have hpt := R.tup p hmem
      have rest : wpAny (model P w) A (searchRest a x (nh w k) true f es t (way t.mask (nh w k) (c + q)) i (nth t.mask (go0 t.mask (nh w k)) (c + (q + 1)))) Q E s := by
        unfold searchRest
        rw [R.entry hp]
        dsimp only
        refine wpAny_bind (wpAny_holding (eqAt_key p.2 k A s p.1 x hpt.is hx.is (by have := hpt.deep; omega) _ _ _ _ ?_))
        refine wpAny_bind (wpAny_setState_of ho hd R.fits ?_)
        dsimp only
        rw [← NestedKey.decide_eq]
        by_cases hkk : p.2 = k
        · refine wp_if_pos (by simp [hkk]) ?_
          refine wpAny_pure (hin ?_)
          exact List.mem_map.mpr ⟨p, hmem, hkk⟩
        · refine wp_if_neg (by simp [hkk]) ?_
          try refine wpAny_bind (wpAny_pure ?_)
          rw [sameMem]
          dsimp only
          have hsl : t.slot (way t.mask (nh w k) (c + q)) = .live i := slot_live R.tab.ris hi
          simp only [if_true, hsl, R.entry hp]
          obtain ⟨pb, epb⟩ := hpt.ref
          rw [epb]
          refine wpAny_bind (wpAny_isSame_ref_self (wpAny_bind (wpAny_pure ?_)))
          simp only [if_true]
          refine wp_if_neg (by simp [hkk]) ?_
          refine look R hx hu hKf hK hKb hin hout f (c + (q + 1)) _ rfl (by omega) (by omega) fun i0 p0 h0 hk0 => ?_
          obtain ⟨c', a1, a2, a3⟩ := hre i0 p0 h0 hk0
          refine ⟨c', ?_, a2, a3⟩
          rcases Nat.lt_or_ge c' (c + q) with z | z
          · exfalso
            refine hno (c' - c) i0 (by omega) (by rw [e1, show c + (c' - c) = c' by omega]; exact a3) ?_
            exact (hashAt i0 p0 h0).trans (congrArg (nh w) hk0)
          · rcases Nat.lt_or_ge (c + q) c' with y | y
            · omega
            · exfalso
              have ec : c' = c + q := Nat.le_antisymm y z
              rw [ec] at a3
              have s0 := slot_live R.tab.ris a3
              rw [hsl] at s0
              injection s0 with s0
              rw [← s0, hp] at h0
              exact hkk ((congrArg Prod.snd (Option.some.inj h0)).trans hk0)
      by_cases hl : t.led = true
      · refine wp_if_neg (by simp [hl]) ?_
        try refine wpAny_bind (wpAny_pure ?_)
        exact rest
      · refine wp_if_pos (by simp [hl]) ?_
        refine wpAny_bind (seen_key hx (fun y hy => ?_) ?_)
        · obtain ⟨e, he, ee⟩ := List.mem_map.mp hy
          have he1 : e ∈ es ∧ e.1 = nh w k := by simpa using he
          have he2 : e ∈ es.toList := by simpa using he1.1
          rw [R.rows] at he2
          obtain ⟨p2, hp2, e2⟩ := List.mem_map.mp he2
          refine ⟨p2.2, ?_⟩
          rw [← ee, ← e2]
          exact R.tup p2 hp2
        · refine wp_if_neg (by decide) ?_
          try refine wpAny_bind (wpAny_pure ?_)
          exact rest
    · have hpr' : t.probe (fun i => (es[i]?.map (·.1)).getD 0) (nh w k) (stand.getD (t.probeStart (nh w k))) = some (.empty (way t.mask (nh w k) K) none) := by
        have e2 : way t.mask (nh w k) K = (nth t.mask (nth t.mask (go0 t.mask (nh w k)) c) (K - c)).j := by
          rw [e1, show c + (K - c) = K by omega]
        rw [hst, e2]
        exact hpr
      rw [hpr']
      dsimp only
      refine wpAny_pure (hout fun hm => ?_)
      obtain ⟨p0, h0, hk0⟩ := List.mem_map.mp hm
      obtain ⟨i0, hi0, e0⟩ := List.getElem_of_mem h0
      have h00 : L[i0]? = some p0 := by rw [List.getElem?_eq_getElem hi0, e0]
      obtain ⟨c', a1, a2, a3⟩ := hre i0 p0 h00 hk0
      refine hno (c' - c) i0 (by omega) (by rw [e1, show c + (c' - c) = c' by omega]; exact a3) ?_
      exact (hashAt i0 p0 h00).trans (congrArg (nh w) hk0)
theorem look_at (R : SetP w s.heap a L es ep t) {x : Value} {k : NestedKey} (hx : TK s.heap k x) (hu : A.units + 8 < cLine) {Q : SetFound → Shared → Prop}
    (hin : k ∈ L.map (·.2) → Q (.there none) s)
    (hout : ∀ K, k ∉ L.map (·.2) → way t.mask (nh w k) K ∉ t.place.toList → (∀ c, c < K → way t.mask (nh w k) c ∈ t.place.toList) → Q (.free (way t.mask (nh w k) K) false) s) :
    wpAny (model P w) A (setSearch a x (nh w k) true) Q E s := by
  have hroom := R.room
  obtain ⟨K, hKf, hK, hKb⟩ := R.tab.first (by rw [List.length_map]; omega) (nh w k)
  have hbig : K < 100000 := by
    have : 10 * SetTable.turns t.mask ≤ 1420 := by
      unfold SetTable.turns
      rcases R.tab.mok with e | e | e <;> omega
    omega
  unfold setSearch
  refine look R hx hu hKf hK hKb hin (fun hn => hout K hn hK hKb) 100000 0 none rfl (Nat.zero_le _) (by omega) fun i p hp hk => ?_
  have hi : (L.map fun p => nh w p.2)[i]? = some (nh w k) := by rw [List.getElem?_map, hp, ← hk] <;> rfl
  have hil : i < t.place.toList.length := by
    have h1 : i < L.length := (List.getElem?_eq_some_iff.mp hp).1
    have h2 := R.tab.sz
    rw [List.length_map] at h2
    rw [Array.length_toList]
    omega
  have hj := List.getElem?_eq_getElem hil
  obtain ⟨c, hc, e⟩ := R.tab.before hK hi hj
  exact ⟨c, Nat.zero_le _, hc, by rw [hj, e]⟩
theorem rows_put' (L : Es) (p : Nat) (x : Value) (k : NestedKey) : rws w (L.take p ++ (x, k) :: L.drop p) = (rws w L).take p ++ (nh w k, x) :: (rws w L).drop p := by
  unfold rws
  rw [List.map_append, List.map_cons, List.map_take, List.map_drop]
theorem range_get {α : Type} (L : List α) : (List.range L.length).filterMap (fun i => L[i]?) = L := by
  have key2 : ∀ n, n ≤ L.length → (List.range n).filterMap (fun i => L[i]?) = L.take n := by
    intro n
    induction n with
    | zero => intro _; rfl
    | succ n ih =>
      intro hn
      have hlt : n < L.length := hn
      rw [List.range_succ, List.filterMap_append, ih (Nat.le_of_lt hlt), List.take_succ, List.getElem?_eq_getElem hlt]
      rw [List.filterMap_cons_some (List.getElem?_eq_getElem hlt)] <;> rfl
  rw [key2 L.length (Nat.le_refl _), List.take_length]
theorem order_rows' (L : Es) (es : Array (Int × Value)) (order : Array Nat) (hr : es.toList = rws w L) (hp : order.toList.Perm (List.range L.length)) :
    ∃ L2, (order.filterMap (es[·]?)).toList = rws w L2 ∧ L2.Perm L ∧ (L2.map fun p => nh w p.2) = order.toList.map fun i => (es.map (·.1)).getD i 0 := by
  have ent : ∀ i (h : i < L.length), es[i]? = some (nh w (L[i]).2, (L[i]).1) := fun i h => by
    rw [← Array.getElem?_toList, hr]
    unfold rws
    rw [List.getElem?_map, List.getElem?_eq_getElem h] <;> rfl
  have key : ∀ l : List Nat, (∀ i ∈ l, i < L.length) → ∃ L2 : Es, l.filterMap (fun i => es[i]?) = rws w L2 ∧ L2 = l.filterMap (fun i => L[i]?) ∧ (L2.map fun p => nh w p.2) = l.map fun i => (es.map (·.1)).getD i 0 := by
    intro l
    induction l with
    | nil => intro _; exact ⟨[], rfl, rfl, rfl⟩
    | cons i l ih =>
      intro hl
      have hi := hl i List.mem_cons_self
      obtain ⟨L2, e1, e2, e3⟩ := ih fun j hj => hl j (List.mem_cons_of_mem _ hj)
      refine ⟨L[i] :: L2, ?_, ?_, ?_⟩
      · rw [List.filterMap_cons_some (ent i hi), e1] <;> rfl
      · rw [List.filterMap_cons_some (List.getElem?_eq_getElem hi), e2]
      · rw [List.map_cons, List.map_cons, e3]
        have e4 : (es.map (·.1)).getD i 0 = nh w (L[i]).2 := by
          have e5 : (es.map (·.1))[i]? = some (nh w (L[i]).2) := by rw [Array.getElem?_map, ent i hi] <;> rfl
          simp [Array.getD_eq_getD_getElem?, e5]
        rw [e4]
  obtain ⟨L2, e1, e2, e3⟩ := key order.toList fun i hi => List.mem_range.mp (hp.mem_iff.mp hi)
  refine ⟨L2, by first | (rw [Array.toList_filterMap]; exact e1) | simpa using e1, ?_, e3⟩
  have h1 : L2.Perm ((List.range L.length).filterMap fun i => L[i]?) := by
    rw [e2]
    exact hp.filterMap _
  rw [range_get] at h1
  exact h1
theorem relay_at' {o : Obj} (ho : s.heap.get? a = some o) (hex : o.ExactSet) (hd : o.data = .set es ep t) (hrows : es.toList = rws w L) (hsz : t.place.size = es.size) (hdm : t.dummies = #[]) (hfl : es.size ≤ t.mask)
    (nd : (L.map (·.2)).Nodup) (tup : ∀ p ∈ L, TK s.heap p.2 p.1) (ld : w.params.followText "set-order" = true ∨ t.led = true) (few : L.length < 76) {wanted M : Nat}
    (hw : SetTable.sizeAbove wanted - 1 = M) (hM : MaskOk M) (hw2 : SetTable.sizeAbove wanted ≤ 128) (hn : L.length * 5 < M * 3) {Q : Unit → Shared → Prop}
    (hQ : ∀ h' L' es' ep' t', Heap.SameBut a s.heap h' → SetP w h' a L' es' ep' t' → L'.Perm L → Q () { s with heap := h' }) : wpAny (model P w) A (setRelay a wanted) Q E s := by
  have hsl : es.size = L.length := by
    have h := congrArg List.length hrows
    unfold rws at h
    rw [Array.length_toList, List.length_map] at h
    exact h
  have hfits : t.fits es.size = true := by
    unfold SetTable.fits SetTable.fill
    rw [hdm, Bool.and_eq_true, beq_iff_eq, decide_eq_true_eq]
    show t.place.size = es.size ∧ t.place.size + 0 ≤ t.mask
    omega
  obtain ⟨t', order, e, hp, T, em, el, ep', ed⟩ := relaid_ok t (hs := es.map (·.1)) (wanted := wanted) hw hM (by rw [Array.size_map, hsl]; omega)
  rw [Array.size_map, hsl] at hp
  obtain ⟨L2, r1, r2, r3⟩ := order_rows' L es order hrows hp
  rw [← r3] at T
  have hs2 : (order.filterMap (es[·]?)).size = es.size := by
    have h := congrArg List.length r1
    unfold rws at h
    rw [Array.length_toList, List.length_map, r2.length_eq] at h
    rw [h, hsl]
  rw [setRelay_eq]
  refine wpAny_bind (wpAny_setState_of ho hd hfits ?_)
  dsimp only
  refine wp_if_neg (by rw [sizeLine_eq]; omega) ?_
  try refine wpAny_bind (wpAny_pure ?_)
  rw [e]
  dsimp only
  refine wpAny_bind ?_
  refine wp_if_neg (by rw [hs2]; simp) ?_
  try refine wpAny_bind (wpAny_pure ?_)
  refine wpAny_pure ?_
  dsimp only
  refine wpAny_storeSet_of ho hd ?_ (by rw [hs2, hsl, sizeLine_eq]; omega)
  have sb : Heap.SameBut a s.heap (s.heap.update a (Obj.putSet (order.filterMap (es[·]?)) t')) := Heap.SameBut.update ..
  refine hQ _ L2 (order.filterMap (es[·]?)) (ep + 1) t' sb ?_ r2
  refine ⟨⟨_, store_at ho hd, ⟨hex.1, hex.2.1, hex.2.2⟩, rfl⟩, r1, T, ?_, by rw [el]; exact ld, ?_, by rw [r2.length_eq]; exact few, fun p hpm => (tup p (r2.mem_iff.mp hpm)).same ho hd sb⟩
  · exact (r2.map (·.2)).nodup_iff.mpr nd
  · rw [r2.length_eq, em]
    exact hn
theorem addP (R : SetP w s.heap a L es ep t) {x : Value} {k : NestedKey} (hx : TK s.heap k x) (hu : A.units + 8 < cLine) (hfew : L.length + 1 < 76) {Q : Bool → Shared → Prop}
    (hQ : ∀ b h' L' es' ep' t', Heap.SameBut a s.heap h' → SetP w h' a L' es' ep' t' → (k ∈ L.map (·.2) → L' = L) → (k ∉ L.map (·.2) → L'.Perm ((x, k) :: L)) → Q b { s with heap := h' }) :
    wpAny (model P w) A (setAddHashed a x (nh w k)) Q E s := by
  obtain ⟨o, ho, hex, hd⟩ := R.ob
  have hsl := R.size
  have hroom := R.room
  obtain ⟨xb, exb⟩ := hx.ref
  unfold setAddHashed
  refine wpAny_holding ?_
  rw [show (100000 : Nat) = 99999 + 1 from rfl, setAddHashedIn_succ]
  refine wpAny_bind (wpAny_setState_of ho hd R.fits ?_)
  dsimp only
  refine wp_if_neg (by rw [exb]; simp [byScan, Value.scannable]) ?_
  try refine wpAny_bind (wpAny_pure ?_)
  refine wpAny_bind (look_at R hx hu (fun hm => ?_) fun K hm hK hb => ?_)
  · dsimp only
    exact wpAny_pure (hQ false s.heap L es ep t (Heap.SameBut.refl a s.heap) R (fun _ => rfl) fun z => absurd hm z)
  · dsimp only
    refine wpAny_bind (wpAny_setState_of ho hd R.fits ?_)
    dsimp only
    obtain ⟨q1, q2, q3, q4, q5, q6, q7, q8, q9⟩ := R.tab.put hK hb
    generalize hpt : t.put (way t.mask (nh w k) K) = pt at q1 q3 q4 q5 q6 q7 q8 q9 ⊢
    obtain ⟨t1, p⟩ := pt
    dsimp only at q1 q3 q4 q5 q6 q7 q8 q9 ⊢
    subst q1
    have hin : (SetTable.insertAt es (SetTable.below t.place (way t.mask (nh w k) K)) (nh w k, x)).toList = rws w (L.take (SetTable.below t.place (way t.mask (nh w k) K)) ++ (x, k) :: L.drop (SetTable.below t.place (way t.mask (nh w k) K))) := by
      rw [SetTable.toList_insertAt, rows_put', R.rows]
    generalize hpp : SetTable.below t.place (way t.mask (nh w k) K) = p at q2 q3 hin ⊢
    have pm := put_perm L p (x, k)
    have hlen : (L.take p ++ (x, k) :: L.drop p).length = L.length + 1 := pm.length_eq
    have hhs : (L.take p ++ (x, k) :: L.drop p).map (fun p => nh w p.2) = (L.map fun p => nh w p.2).take p ++ nh w k :: (L.map fun p => nh w p.2).drop p := by
      rw [List.map_append, List.map_cons, List.map_take, List.map_drop]
    rw [← hhs] at q3
    have nd1 : ((L.take p ++ (x, k) :: L.drop p).map (·.2)).Nodup := by
      refine (pm.map (·.2)).nodup_iff.mpr ?_
      rw [List.map_cons]
      exact List.nodup_cons.mpr ⟨hm, R.nd⟩
    have hes : (SetTable.insertAt es p (nh w k, x)).size = L.length + 1 := by
      have h := congrArg List.length hin
      unfold rws at h
      rw [Array.length_toList, List.length_map, hlen] at h
      exact h
    generalize SetTable.insertAt es p (nh w k, x) = es1 at hin hes ⊢
    generalize L.take p ++ (x, k) :: L.drop p = L1 at pm hlen q3 nd1 hin
    have fin : ∀ (t2 : SetTable), t2.place = t1.place → t2.dummies = t1.dummies → t2.mask = t1.mask → t2.led = t1.led → wpAny (model P w) A (do
        storeSet a es1 t2
        if (!false && t2.tooFull) = true then do setRelay a (SetTable.grown (es.size + 1)); pure true else pure true) Q E s := by
      intro t2 f1 f2 f3 f4
      have tb : TabOk t2 (L1.map fun p => nh w p.2) := ⟨by rw [f1]; exact q3.ris, by rw [f2]; exact q3.dm, by rw [f1]; exact q3.sz, by rw [f3]; exact q3.mok, by rw [f1, f3]; exact q3.bd, by rw [f1, f3]; exact q3.reach⟩
      have hfill : t2.fill = t1.fill := by unfold SetTable.fill; rw [f1, f2]
      refine wpAny_bind (wpAny_storeSet_of ho hd ?_ (by rw [hes, sizeLine_eq]; omega))
      have sb : Heap.SameBut a s.heap (s.heap.update a (Obj.putSet es1 t2)) := Heap.SameBut.update ..
      have ho1 := store_at (es' := es1) (t' := t2) ho hd
      generalize s.heap.update a (Obj.putSet es1 t2) = h1 at sb ho1 ⊢
      have tup1 : ∀ p ∈ L1, TK h1 p.2 p.1 := fun p hp => by
        rcases List.mem_cons.mp (pm.mem_iff.mp hp) with e | hp
        · rw [e]; exact hx.same ho hd sb
        · exact (R.tup p hp).same ho hd sb
      have ld1 : w.params.followText "set-order" = true ∨ t2.led = true := by rw [f4, q5]; exact R.led
      have tf : t2.tooFull = t1.tooFull := by unfold SetTable.tooFull; rw [hfill, f3]
      by_cases hf : t1.tooFull = true
      · rw [if_pos (by rw [tf]; simp [hf])]
        refine wpAny_bind ?_
        have hfull : (L.length + 1) * 5 ≥ t1.mask * 3 := by
          have h := hf
          unfold SetTable.tooFull at h
          rw [decide_eq_true_eq, q9, List.length_map] at h
          exact h
        rw [hsl]
        have hsz1 : t2.place.size = es1.size := by
          have h := tb.sz
          rw [List.length_map, hlen] at h
          rw [h, hes]
        have cases2 : (t.mask = 7 ∧ L.length = 4) ∨ (t.mask = 31 ∧ L.length = 18) := by
          rcases R.tab.mok with e | e | e
          · left; rw [q4, e] at hfull; rw [e] at hroom; exact ⟨e, by omega⟩
          · right; rw [q4, e] at hfull; rw [e] at hroom; exact ⟨e, by omega⟩
          · exfalso; rw [q4, e] at hfull; omega
        have go : ∀ M, SetTable.sizeAbove (SetTable.grown (L.length + 1)) - 1 = M → MaskOk M → SetTable.sizeAbove (SetTable.grown (L.length + 1)) ≤ 128 → (L.length + 1) * 5 < M * 3 →
            wpAny (model P w) A (setRelay a (SetTable.grown (L.length + 1))) (fun _ s' => wpAny (model P w) A (pure true) Q E s') E { s with heap := h1 } := fun M h1' h2' h3' h4' => by
          refine relay_at' (s := { s with heap := h1 }) ho1 ⟨hex.1, hex.2.1, hex.2.2⟩ rfl hin hsz1 tb.dm (by rw [hes, f3, q4]; rcases cases2 with ⟨e, e2⟩ | ⟨e, e2⟩ <;> omega) nd1 tup1 ld1 (by rw [hlen]; exact hfew) h1' h2' h3' (by rw [hlen]; exact h4') ?_
          intro h2 L2 es2 ep2 t3 sb2 R2 pm2
          refine wpAny_pure (hQ true h2 L2 es2 ep2 t3 (sb.trans sb2) R2 (fun z => absurd z hm) fun _ => pm2.trans pm)
        rcases cases2 with ⟨_, e2⟩ | ⟨_, e2⟩
        · refine go 31 (by rw [e2, size_20]) (.inr (.inl rfl)) (by rw [e2, size_20]; decide) (by omega)
        · refine go 127 (by rw [e2, size_76]) (.inr (.inr rfl)) (by rw [e2, size_76]; decide) (by omega)
      · rw [if_neg (by rw [tf]; simp [hf])]
        refine wpAny_pure (hQ true h1 L1 es1 (ep + 1) t2 sb ⟨⟨_, ho1, ⟨hex.1, hex.2.1, hex.2.2⟩, rfl⟩, hin, tb, nd1, ld1, ?_, by rw [hlen]; exact hfew, tup1⟩ (fun z => absurd z hm) fun _ => pm)
        have h := hf
        unfold SetTable.tooFull at h
        rw [decide_eq_true_eq, q9, List.length_map] at h
        rw [hlen, f3]
        omega
    have two : ∀ b : Bool, wpAny (model P w) A (do
        storeSet a es1 (if b = true then t1 else { t1 with plain := false })
        if (!false && (if b = true then t1 else { t1 with plain := false }).tooFull) = true then do setRelay a (SetTable.grown (es.size + 1)); pure true else pure true) Q E s := by
      intro b
      cases b
      · exact fin { t1 with plain := false } rfl rfl rfl rfl
      · exact fin t1 rfl rfl rfl rfl
    split
    · exact wpAny_bind (hashBy_key k x 8 A E _ hx.is two)
    · exact wpAny_bind (wpAny_pure (two true))
inductive BK : NestedKey → Value → Prop
  | int (i : Int) (t : Tok) : BK (.num i) (.int i t)
  | text (x : Str) (t : Tok) : BK (.text x) (.str x t)
def kx : NestedKey → Key
  | .num i => .inl i
  | .text x => .inr x
  | _ => .inl 0
theorem BK.mix {k : NestedKey} {v : Value} (b : BK k v) : (mixKind P w).is (kx k) v = true := by
  cases b with
  | int i t => exact mixKind_int P w i t
  | text x t => exact mixKind_str P w x t
theorem BK.hash {k : NestedKey} {v : Value} (b : BK k v) : nh w k = (mixKind P w).hash (kx k) := by
  cases b <;> rfl
theorem BK.sc {k : NestedKey} {v : Value} (b : BK k v) : v.scannable = true := by
  cases b <;> rfl
theorem BK.nested {k : NestedKey} {v : Value} (b : BK k v) (h : Heap) : NestedIs h k v := by
  cases b with
  | int i t => exact .int i t
  | text x t => exact .text x t
theorem BK.iff {k k' : NestedKey} {v v' : Value} (b : BK k v) (b' : BK k' v') : (mixKind P w).is (kx k) v' = true ↔ k' = k := by
  rw [mixKind_is]
  cases b with
  | int i t =>
    cases b' with
    | int j u =>
      show (keyIs (.inl i) (.int j u) = true) ↔ _
      constructor
      · intro z
        have z : (j == i) = true := z
        rw [beq_iff_eq] at z
        rw [z]
      · intro z
        cases z
        exact keyIs_int i u
    | text y u => exact ⟨fun z => (by cases z), fun z => (by cases z)⟩
  | text x t =>
    cases b' with
    | int j u => exact ⟨fun z => (by cases z), fun z => (by cases z)⟩
    | text y u =>
      constructor
      · intro z
        have z : (y == x) = true := z
        rw [beq_iff_eq] at z
        rw [z]
      · intro z
        cases z
        exact keyIs_str x u
structure SetS (w : World) (h : Heap) (a : Addr) (L : Es) (es : Array (Int × Value)) (ep : Nat) (t : SetTable) : Prop where
  ob : ∃ o, h.get? a = some o ∧ o.ExactSet ∧ o.data = .set es ep t
  rows : es.toList = rws w L
  nd : (L.map (·.2)).Nodup
  led : w.params.followText "set-order" = true ∨ t.led = true
  fits : t.fits es.size = true
  ris : Ris t.place.toList
  few : L.length < 4096
  bk : ∀ p ∈ L, BK p.2 p.1
theorem rws_len {L : Es} {es : Array (Int × Value)} (h : es.toList = rws w L) : es.size = L.length := by
  have h := congrArg List.length h
  unfold rws at h
  rw [Array.length_toList, List.length_map] at h
  exact h
theorem elems_of {L : Es} (h : ∀ p ∈ L, BK p.2 p.1) : ElemsOf (mixKind P w) (rws w L) := fun e he => by
  obtain ⟨p, hp, rfl⟩ := List.mem_map.mp he
  exact ⟨⟨kx p.2, (h p hp).mix, (h p hp).hash⟩, (h p hp).sc⟩
theorem perm_rows {l : List (Int × Value)} {L : Es} (h : l.Perm (rws w L)) : ∃ L2, l = rws w L2 ∧ L2.Perm L := by
  have : ∀ (l m : List (Int × Value)), l.Perm m → ∀ L, m = rws w L → ∃ L2, l = rws w L2 ∧ L2.Perm L := by
    intro l m h
    induction h with
    | nil => intro L e; exact ⟨L, e, .refl _⟩
    | @cons x l m _ ih =>
      intro L e
      cases L with
      | nil => cases e
      | cons p L =>
        injection e with e1 e2
        obtain ⟨L2, a, b⟩ := ih L e2
        exact ⟨p :: L2, by rw [a, e1]; rfl, b.cons p⟩
    | swap x y l =>
      intro L e
      match L, e with
      | p :: q :: L, e =>
        injection e with e1 e2
        injection e2 with e2 e3
        exact ⟨q :: p :: L, by rw [e1, e2, e3]; rfl, .swap _ _ _⟩
    | trans _ _ ih1 ih2 =>
      intro L e
      obtain ⟨L2, a, b⟩ := ih2 L e
      obtain ⟨L3, c, d⟩ := ih1 L2 a
      exact ⟨L3, c, d.trans b⟩
  exact this l _ h L rfl
theorem addS_tail {g : Bool → Sem Unit} (hg : ∀ (b : Bool) (s₁ : Shared) (Q' : Unit → Shared → Prop), Q' () s₁ → wpAny (model P w) A (g b) Q' E s₁)
    {o : Obj} {es : Array (Int × Value)} {ep : Nat} {t : SetTable} (ho : s.heap.get? a = some o) (hex : o.ExactSet) (hd : o.data = .set es ep t)
    {es1 : Array (Int × Value)} {t2 : SetTable} {L1 : Es} (r1 : es1.toList = rws w L1) (nd1 : (L1.map (·.2)).Nodup) (b1 : ∀ p ∈ L1, BK p.2 p.1) (few : L1.length < 4096)
    (hf2 : t2.fits es1.size = true) (hr : Ris t2.place.toList) (hl : w.params.followText "set-order" = true ∨ t2.led = true) {wasDummy : Bool} {R : Option Bool → Shared → Prop}
    (hR : ∀ h' L' es' ep' t', Heap.SameBut a s.heap h' → SetS w h' a L' es' ep' t' → L'.Perm L1 → R (some true) { s with heap := h' }) :
    wpAny (model P w) A (do
        storeSet a es1 t2
        if (!wasDummy && t2.tooFull) = true then do
            g (relayAll t2 es1 (SetTable.grown es1.size)).2.2
            storeSet a (relayAll t2 es1 (SetTable.grown es1.size)).1 (relayAll t2 es1 (SetTable.grown es1.size)).2.1
            pure (some true)
          else pure (some true)) R E s := by
  have hs1 : es1.size = L1.length := rws_len r1
  have hb1 : es1.size < scanBound := by rw [hs1]; unfold scanBound; omega
  refine wpAny_bind (wpAny_storeSet_of ho hd ?_ (fits_of_scanBound hb1))
  have ho1 := store_at (es' := es1) (t' := t2) ho hd
  have sb1 := Heap.SameBut.update s.heap a (Obj.putSet es1 t2)
  split
  · have pm := relayAll_perm t2 es1 (SetTable.grown es1.size)
    have hf3 := relayAll_fits t2 es1 (SetTable.grown es1.size)
    have hr3 := relayAll_ris t2 es1 (SetTable.grown es1.size)
    have hl3 := relayAll_led t2 es1 (SetTable.grown es1.size)
    generalize relayAll t2 es1 (SetTable.grown es1.size) = Z at pm hf3 hr3 hl3 ⊢
    obtain ⟨es2, t3, gave⟩ := Z
    dsimp only at pm hf3 hr3 hl3 ⊢
    rw [r1] at pm
    obtain ⟨L2, e2, p2⟩ := perm_rows pm
    have hb2 : es2.size < scanBound := by rw [rws_len e2, p2.length_eq]; unfold scanBound; omega
    refine wpAny_bind (hg _ _ _ ?_)
    refine wpAny_bind (wpAny_storeSet_of ho1 rfl ?_ (fits_of_scanBound hb2))
    have ho2 := store_at (es' := es2) (t' := t3) ho1 rfl
    refine wpAny_pure (hR _ L2 es2 (ep + 1 + 1) t3 (sb1.trans (Heap.SameBut.update _ a _)) ?_ p2)
    exact ⟨⟨_, ho2, hex, rfl⟩, e2, (p2.map (·.2)).nodup_iff.mpr nd1, hl.imp id fun z => (by rw [hl3]; exact z), hf3, hr3, by rw [p2.length_eq]; exact few, fun p hp => b1 p (p2.mem_iff.mp hp)⟩
  · exact wpAny_pure (hR _ L1 es1 (ep + 1) t2 sb1 ⟨⟨_, ho1, hex, rfl⟩, r1, nd1, hl, hf2, hr, few, b1⟩ (.refl _))
theorem addS (R : SetS w s.heap a L es ep t) {x : Value} {k : NestedKey} (hx : BK k x) (hfew : L.length + 1 < 4096) {Q : Bool → Shared → Prop}
    (hQ : ∀ b h' L' es' ep' t', Heap.SameBut a s.heap h' → SetS w h' a L' es' ep' t' → (k ∈ L.map (·.2) → L' = L) → (k ∉ L.map (·.2) → L'.Perm ((x, k) :: L)) → Q b { s with heap := h' }) :
    wpAny (model P w) A (setAddHashed a x (nh w k)) Q E s := by
  obtain ⟨o, ho, hex, hd⟩ := R.ob
  have hsc := hx.sc
  have hel : ElemsOf (mixKind P w) es.toList := by rw [R.rows]; exact elems_of R.bk
  have hb : es.size < scanBound := by rw [rws_len R.rows]; unfold scanBound; omega
  have hf := R.fits
  unfold setAddHashed setAddHashedIn
  refine wpAny_holding (wpAny_bind (wpAny_setState_of ho hd hf ?_))
  dsimp only
  rw [byScan_of hsc hb hel]
  simp only [↓reduceIte]
  unfold setAddByScan
  refine wpAny_bind ?_
  refine wpAny_bind (wpAny_rule ?_)
  rw [hx.hash (P := P)]
  refine wpAny_bind (wpAny_setScan_of hx.mix ho hd hf hel ?_)
  rw [← hx.hash (P := P)]
  have hm : k ∈ L.map (·.2) ↔ ∃ e ∈ es.toList, (mixKind P w).is (kx k) e.2 = true := by
    rw [R.rows, List.mem_map]
    constructor
    · rintro ⟨p, hp, e⟩
      exact ⟨_, List.mem_map.mpr ⟨p, hp, rfl⟩, (hx.iff (R.bk p hp)).mpr e⟩
    · rintro ⟨e, he, q⟩
      obtain ⟨p, hp, rfl⟩ := List.mem_map.mp he
      exact ⟨p, hp, (hx.iff (R.bk p hp)).mp q⟩
  cases hfi : List.findIdx? (fun e => (mixKind P w).is (kx k) e.2) es.toList with
  | some j =>
    dsimp only
    obtain ⟨hj, pj, _⟩ := List.findIdx?_eq_some_iff_getElem.mp hfi
    have hk : k ∈ L.map (·.2) := hm.mpr ⟨es.toList[j], List.getElem_mem hj, pj⟩
    exact wpAny_pure (wpAny_pure (hQ false s.heap L es ep t (Heap.SameBut.refl a s.heap) R (fun _ => rfl) fun z => absurd hk z))
  | none =>
    dsimp only
    have hnk : k ∉ L.map (·.2) := fun z => by
      obtain ⟨e, he, q⟩ := hm.mp z
      have c := List.findIdx?_eq_none_iff.mp hfi e he
      rw [q] at c
      cases c
    have hgw : ∀ (b : Bool) {s₁ : Shared} {Q' : Unit → Shared → Prop}, Q' () s₁ → wpAny (model P w) A (match b with | true => rule "set.scan.the-table-gave-way" | false => pure ()) Q' E s₁ :=
      fun b s₁ Q' q => by cases b <;> first | exact wpAny_pure q | exact wpAny_rule q
    have pm := layNew_perm t es (nh w k) x
    have hf1 := layNew_fits t es (nh w k) x
    have hr1 := layNew_ris t es (nh w k) x R.ris
    have hl1 := layNew_led t es (nh w k) x
    generalize layNew t es (nh w k) x = Z at pm hf1 hr1 hl1 ⊢
    obtain ⟨es1, t1, wasDummy, gave⟩ := Z
    dsimp only at pm hf1 hr1 hl1 ⊢
    rw [Array.toList_push] at pm
    have pc : es1.toList.Perm (rws w ((x, k) :: L)) := by
      refine (pm.trans (List.perm_append_singleton _ _)).trans ?_
      rw [R.rows]
      exact .refl _
    obtain ⟨L1, r1, p1⟩ := perm_rows pc
    have nd1 : (L1.map (·.2)).Nodup := (p1.map (·.2)).nodup_iff.mpr (List.nodup_cons.mpr ⟨hnk, R.nd⟩)
    have b1 : ∀ p ∈ L1, BK p.2 p.1 := fun p hp => by
      rcases List.mem_cons.mp (p1.mem_iff.mp hp) with z | z
      · rw [z]; exact hx
      · exact R.bk p z
    have f1 : L1.length < 4096 := by rw [p1.length_eq]; exact hfew
    have hled : w.params.followText "set-order" = true ∨ t1.led = true := R.led.imp id fun z => by rw [hl1]; exact z
    have fin : ∀ h' L' es' ep' t', Heap.SameBut a s.heap h' → SetS w h' a L' es' ep' t' → L'.Perm L1 → Q true { s with heap := h' } := fun h' L' es' ep' t' sb r pp =>
      hQ true h' L' es' ep' t' sb r (fun z => absurd z hnk) fun _ => pp.trans p1
    refine wpAny_bind (hgw _ ?_)
    split
    · refine wpAny_bind ?_
      refine hashBy_key k x 8 A E _ (hx.nested _) fun bb => ?_
      refine addS_tail ?_ ho hex hd r1 nd1 b1 f1 ?_ ?_ ?_ ?_
      · intro b s₁ Q' q; cases b <;> first | exact wpAny_pure q | exact wpAny_rule q
      · first | (split <;> first | exact hf1 | exact SetTable.fits_plain_off hf1) | exact hf1
      · first | (split <;> exact hr1) | exact hr1
      · first | (split <;> exact hled) | exact hled
      · intro h' L' es' ep' t' sb r pp; dsimp only; exact wpAny_pure (fin h' L' es' ep' t' sb r pp)
    · refine wpAny_bind (wpAny_pure ?_)
      simp only [↓reduceIte]
      refine addS_tail ?_ ho hex hd r1 nd1 b1 f1 hf1 hr1 hled ?_
      · intro b s₁ Q' q; cases b <;> first | exact wpAny_pure q | exact wpAny_rule q
      · intro h' L' es' ep' t' sb r pp; dsimp only; exact wpAny_pure (fin h' L' es' ep' t' sb r pp)
end
end PLS

namespace PLS
open PySem PySem.Spec PyProof.Rows L2
open PySem.W (dataLe dataLt alike AllAlike EachIs)
def KM (m : Bool) (h : Heap) (k : NestedKey) (v : Value) : Prop := match m with
  | true => TK h k v
  | false => BK k v
def SM (m : Bool) (w : World) (h : Heap) (a : Addr) (L : Es) : Prop := match m with
  | true => ∃ es ep t, SetP w h a L es ep t
  | false => ∃ es ep t, SetS w h a L es ep t
section
variable {P : Program} {w : World} {A : Around} {E : Value → Shared → Prop} {s : Shared} {m : Bool} {a : Addr} {L : Es}
theorem KM.keep {h h' : Heap} {k : NestedKey} {v : Value} (x : KM m h k v) (hk : ∀ a o, h.get? a = some o → h'.get? a = some o) : KM m h' k v := by
  cases m with
  | true => exact TK.keep x fun a o _ _ e _ => hk a o e
  | false => exact x
theorem KM.nested {h : Heap} {k : NestedKey} {v : Value} (x : KM m h k v) : NestedIs h k v ∧ k.depth ≤ 8 := by
  cases m with
  | true => exact ⟨TK.is x, TK.deep x⟩
  | false => exact ⟨BK.nested x h, by cases (show BK k v from x) <;> (rw [NestedKey.depth]; omega)⟩
theorem SM.keep {h h' : Heap} (R : SM m w h a L) (ha : ∀ o, h.get? a = some o → h'.get? a = some o) (ht : ∀ p ∈ L, KM m h' p.2 p.1) : SM m w h' a L := by
  cases m with
  | true =>
    obtain ⟨es, ep, t, R⟩ := R
    obtain ⟨o, ho, r⟩ := R.ob
    exact ⟨es, ep, t, ⟨o, ha o ho, r⟩, R.rows, R.tab, R.nd, R.led, R.room, R.few, ht⟩
  | false =>
    obtain ⟨es, ep, t, R⟩ := R
    obtain ⟨o, ho, r⟩ := R.ob
    exact ⟨es, ep, t, ⟨o, ha o ho, r⟩, R.rows, R.nd, R.led, R.fits, R.ris, R.few, R.bk⟩
def setLim : Bool → Nat
  | true => 76
  | false => 4096
theorem lim_of {m : Bool} {n : Nat} (h : n < 75) : n + 1 < setLim m := by
  cases m
  · show n + 1 < 4096
    omega
  · show n + 1 < 76
    omega
theorem lim_le (m : Bool) : setLim m ≤ 4096 := by
  cases m
  · exact Nat.le_refl _
  · show 76 ≤ 4096
    omega
theorem SM.ob {h : Heap} (R : SM m w h a L) : ∃ o es ep t, h.get? a = some o ∧ o.ExactSet ∧ o.data = .set es ep t ∧ t.fits es.size = true ∧ Ris t.place.toList ∧ (w.params.followText "set-order" = true ∨ t.led = true) ∧ es.toList = rws w L ∧ L.length < setLim m ∧ (L.map (·.2)).Nodup := by
  cases m with
  | true =>
    obtain ⟨es, ep, t, R⟩ := R
    obtain ⟨o, ho, hx, hd⟩ := R.ob
    exact ⟨o, es, ep, t, ho, hx, hd, R.fits, R.tab.ris, R.led, R.rows, R.few, R.nd⟩
  | false =>
    obtain ⟨es, ep, t, R⟩ := R
    obtain ⟨o, ho, hx, hd⟩ := R.ob
    exact ⟨o, es, ep, t, ho, hx, hd, R.fits, R.ris, R.led, R.rows, R.few, R.nd⟩
theorem sm_fresh (m : Bool) {h : Heap} {a : Addr} (ho : h.get? a = some { cls := .type "set", dict := none, data := .set #[] 0 (.fresh 0 0 (!w.params.followText "set-order")) }) : SM m w h a [] := by
  have ld : w.params.followText "set-order" = true ∨ (!w.params.followText "set-order") = true := by
    cases w.params.followText "set-order"
    · exact .inr rfl
    · exact .inl rfl
  cases m with
  | true =>
    refine ⟨#[], 0, _, ⟨_, ho, ⟨rfl, rfl, rfl⟩, rfl⟩, rfl, ⟨List.Pairwise.nil, rfl, rfl, .inl rfl, fun x hx => (by cases hx), fun i h j hi => (by simp at hi)⟩, List.nodup_nil, ld, ?_, by decide, fun p hp => (by cases hp)⟩
    show 0 * 5 < 7 * 3
    decide
  | false => exact ⟨#[], 0, _, ⟨_, ho, ⟨rfl, rfl, rfl⟩, rfl⟩, rfl, List.nodup_nil, ld, by rfl, List.Pairwise.nil, by decide, fun p hp => (by cases hp)⟩
theorem addM (R : SM m w s.heap a L) {x : Value} {k : NestedKey} (hx : KM m s.heap k x) (hu : A.units + 8 < cLine) (hfew : L.length + 1 < setLim m) {Q : Bool → Shared → Prop}
    (hQ : ∀ b h' L' tk, s.toks ≤ tk → Heap.SameBut a s.heap h' → SM m w h' a L' → (k ∈ L.map (·.2) → L' = L) → (k ∉ L.map (·.2) → L'.Perm ((x, k) :: L)) → Q b { s with heap := h', toks := tk }) :
    wpAny (model P w) A (setAdd a x) Q E s := by
  unfold setAdd
  refine wpAny_holding ?_
  obtain ⟨hn, hd⟩ := hx.nested
  refine wpAny_bind (pyHash_key k x A s _ hn (by omega) ?_)
  have hx' : KM m ({ s with toks := s.toks + k.draws } : Shared).heap k x := hx
  cases m with
  | true =>
    obtain ⟨es, ep, t, R⟩ := R
    exact addP (s := { s with toks := s.toks + k.draws }) R hx' hu hfew fun b h' L' es' ep' t' sb r c1 c2 => hQ b h' L' _ (Nat.le_add_right _ _) sb ⟨es', ep', t', r⟩ c1 c2
  | false =>
    obtain ⟨es, ep, t, R⟩ := R
    exact addS (s := { s with toks := s.toks + k.draws }) R hx' hfew fun b h' L' es' ep' t' sb r c1 c2 => hQ b h' L' _ (Nat.le_add_right _ _) sb ⟨es', ep', t', r⟩ c1 c2
structure GotM (ks : Es) (i : Nat) (L : Es) : Prop where
  sub : ∀ p ∈ L, p ∈ ks.take i
  all : ∀ p ∈ ks.take i, p.2 ∈ L.map (·.2)
theorem GotM.zero (ks : Es) : GotM ks 0 [] := ⟨fun p h => (by cases h), fun p h => (by simp at h)⟩
theorem GotM.same {ks L : Es} {i : Nat} {x : Value × NestedKey} (g : GotM ks i L) (h : ks[i]? = some x) (hm : x.2 ∈ L.map (·.2)) : GotM ks (i + 1) L := by
  refine ⟨fun p hp => ?_, fun p hp => ?_⟩
  · rw [take_next h]
    exact List.mem_append_left _ (g.sub p hp)
  · rw [take_next h] at hp
    rcases List.mem_append.mp hp with z | z
    · exact g.all p z
    · rw [List.mem_singleton.mp z]
      exact hm
theorem GotM.more {ks L L' : Es} {i : Nat} {x : Value × NestedKey} (g : GotM ks i L) (h : ks[i]? = some x) (pm : L'.Perm (x :: L)) : GotM ks (i + 1) L' := by
  refine ⟨fun p hp => ?_, fun p hp => ?_⟩
  · rw [take_next h]
    rcases List.mem_cons.mp (pm.mem_iff.mp hp) with z | z
    · rw [z]
      exact List.mem_append_right _ List.mem_cons_self
    · exact List.mem_append_left _ (g.sub p z)
  · rw [take_next h] at hp
    rw [(pm.map (·.2)).mem_iff, List.map_cons]
    rcases List.mem_append.mp hp with z | z
    · exact List.mem_cons_of_mem _ (g.all p z)
    · rw [List.mem_singleton.mp z]
      exact List.mem_cons_self
theorem nodup_le {D : List NestedKey} : ∀ {l : List NestedKey}, l.Nodup → (∀ x ∈ l, x ∈ D) → l.length ≤ D.length := by
  induction D with
  | nil =>
    intro l hn hs
    cases l with
    | nil => exact Nat.le_refl _
    | cons x l => exact absurd (hs x List.mem_cons_self) (by simp)
  | cons d D ih =>
    intro l hn hs
    have h := ih (l := l.erase d) (hn.erase d) fun x hx => by
      have hx2 : x ∈ l := List.mem_of_mem_erase hx
      rcases List.mem_cons.mp (hs x hx2) with e | e
      · rw [e] at hx
        exact absurd hx hn.not_mem_erase
      · exact e
    have hle : l.length ≤ (l.erase d).length + 1 := by
      by_cases hd : d ∈ l
      · rw [List.length_erase_of_mem hd]
        omega
      · rw [List.erase_of_not_mem hd]
        omega
    rw [List.length_cons]
    omega
theorem SM.lt {h : Heap} (R : SM m w h a L) {ks : Es} {i : Nat} (g : GotM ks i L) {D : List NestedKey} (hD : D.length + 1 < setLim m) (hk : ∀ p ∈ ks, p.2 ∈ D) : L.length + 1 < setLim m := by
  obtain ⟨_, _, _, _, _, _, _, _, _, _, _, _, nd⟩ := R.ob
  have h := nodup_le (D := D) nd fun x hx => by
    obtain ⟨p, hp, e⟩ := List.mem_map.mp hx
    rw [← e]
    exact hk p (List.mem_of_mem_take (g.sub p hp))
  rw [List.length_map] at h
  omega
theorem updM {I : Addr} {fp wr : List Addr} {G : Array GenState → Array GenState → Prop} {n : Nat} {Pv : Nat → Value → Prop} {St : Nat → Shared → Prop} {R : Result → Shared → Prop}
    (W : WalksS P w A.in1 I fp wr G n Pv St) (S : Addr) (hSf : S ∉ fp) (ks : Es) (hn : n = ks.length) {D : List NestedKey} (hD : D.length + 1 < setLim m) (hks : ∀ p ∈ ks, p.2 ∈ D) (hval : ∀ i v, Pv i v → ∃ p, ks[i]? = some p ∧ v = p.1)
    (h0 : Heap) (hk : ∀ p ∈ ks, KM m h0 p.2 p.1) (hS0 : h0.get? S = none) (hw0 : ∀ b ∈ wr, h0.get? b = none) (hu : A.in1.units + 8 < cLine) :
    ∀ (k i : Nat) (s : Shared), n - i = k → i ≤ n → St i s → (∀ b o, h0.get? b = some o → s.heap.get? b = some o) → (∃ L, SM m w s.heap S L ∧ GotM ks i L) →
      (∀ s' L, Moved (S :: wr) G s s' → SM m w s'.heap S L → GotM ks n L → (∀ b o, h0.get? b = some o → s'.heap.get? b = some o) → R (.ok (.ret .none)) s') →
      codeAny (model P w) A (.builtin "set.update.loop" ⟨[.ref S, .ref I], []⟩) R s := by
  have hSw : S ∉ wr := fun h => hSf (W.sub _ h)
  have hsub : ∀ b ∈ wr, b ∈ S :: wr := fun b hb => List.mem_cons_of_mem _ hb
  have keepM : ∀ {s s' : Shared}, Moved wr G s s' → (∀ b o, h0.get? b = some o → s.heap.get? b = some o) → ∀ b o, h0.get? b = some o → s'.heap.get? b = some o := fun hm hkp b o e =>
    hm.heap b o (fun hb => by rw [hw0 b hb] at e; cases e) (hkp b o e)
  intro k
  induction k with
  | zero =>
    intro i s hk' hi hst hkp ⟨L, hS, g⟩ hR
    have hin : i = n := by omega
    subst hin
    refine codeAny_builtin F.entry_set_update_loop ?_
    rw [Around.under_plainId F.plain_set_update_loop _]
    show wpAny _ A.in1 (pyNext (.ref I) >>= _) _ _ s
    refine wpAny_bind (W.done s _ _ hst fun s' hm => ?_)
    show wpAny _ A.in1 (ret Value.none) _ _ s'
    have hkp' := keepM hm hkp
    have sub : ∀ p ∈ L, p ∈ ks := fun p hp => List.mem_of_mem_take (g.sub p hp)
    exact wpAny_pure (hR s' L (hm.mono hsub) (hS.keep (fun o e => hm.heap S o hSw e) fun p hp => (hk p (sub p hp)).keep hkp') g hkp')
  | succ k ih =>
    intro i s hk' hi hst hkp ⟨L, hS, g⟩ hR
    have hlt : i < n := by omega
    refine codeAny_builtin F.entry_set_update_loop ?_
    rw [Around.under_plainId F.plain_set_update_loop _]
    show wpAny _ A.in1 (pyNext (.ref I) >>= _) _ _ s
    refine wpAny_bind (W.item i s _ _ hlt hst fun v s' hP hst' hm => ?_)
    obtain ⟨p, hp, rfl⟩ := hval i v hP
    have hkp' := keepM hm hkp
    have sub : ∀ p ∈ L, p ∈ ks := fun p hp => List.mem_of_mem_take (g.sub p hp)
    have hS' : SM m w s'.heap S L := hS.keep (fun o e => hm.heap S o hSw e) fun q hq => (hk q (sub q hq)).keep hkp'
    have hx : KM m s'.heap p.2 p.1 := (hk p (List.mem_of_getElem? hp)).keep hkp'
    show wpAny _ A.in1 (holding [p.1] (setAdd S p.1) >>= _) _ _ s'
    refine wpAny_bind (wpAny_holding ?_)
    refine addM hS' hx hu (hS'.lt g hD hks) fun b h' L' tk htk hsb hS2 c1 c2 => ?_
    have g' : GotM ks (i + 1) L' := by
      rcases Classical.em (p.2 ∈ L.map (·.2)) with c | c
      · rw [c1 c]; exact g.same hp c
      · exact g.more hp (c2 c)
    have hkp2 : ∀ b o, h0.get? b = some o → h'.get? b = some o := fun b o e => (hsb.2 b (fun z => by rw [z, hS0] at e; cases e)).trans (hkp' b o e)
    refine wpAny_pure ⟨plainId_quiet F.plain_set_update_loop _, ih (i + 1) _ (by omega) hlt (W.frame _ s' _ _ hst' htk fun b hb o e => ?_) hkp2 ⟨L', hS2, g'⟩ fun s'' L2 hm'' hS'' g'' hkp'' => ?_⟩
    · rw [hsb.2 b (fun h : b = S => hSf (by rw [← h]; exact hb))]; exact e
    · refine hR s'' L2 (Moved.trans W.gtrans ((hm.mono hsub).then_heap htk fun b o hb e => ?_) hm'') hS'' g'' hkp''
      rw [hsb.2 b (fun h : b = S => hb (by rw [h]; exact List.mem_cons_self))]; exact e
set_option maxHeartbeats 3200000 in
theorem call_set_listM {l : Addr} {items : Array Value} (ks : Es) {Q : Value → Shared → Prop} (hh : A.handled = none) (hl : s.heap.IsList l items) (hit : items.toList = ks.map (·.1))
    (hk : ∀ p ∈ ks, KM m s.heap p.2 p.1) {D : List NestedKey} (hD : D.length + 1 < setLim m) (hks : ∀ p ∈ ks, p.2 ∈ D) (hu : A.units + 16 < cLine)
    (h : ∀ (h' : Heap) (tk : Nat) L, SM m w h' s.heap.objs.size L → GotM ks ks.length L → (∀ b o, s.heap.get? b = some o → h'.get? b = some o) → Q (.ref s.heap.objs.size) { s with heap := h', toks := tk }) :
    wpAny (model P w) A (call (.type "set") [.ref l]) Q E s := by
  have hisz : items.size = ks.length := by
    have q := congrArg List.length hit
    rw [Array.length_toList, List.length_map] at q
    exact q
  obtain ⟨c, tl, hmro⟩ := F.called_set.mro
  have hmade := F.called_set.made
  have hsub := F.called_set.sub
  refine wpAny_call (codeAny_of_tree ?_)
  show wpAny _ _ (callAny (.type "set") _) _ _ _
  refine wpAny_pure ⟨Code.quiet_builtin _ (by decide +kernel), codeAny_builtin F.entry_type_call ?_⟩
  rw [Around.under_plain (weight_type_call_type "set" [.ref l] []) rfl]
  have h1 := F.called_set.notType
  have h2 := F.called_set.canCreate
  have hct := F.typeCall_set_1 (.ref l)
  repeat (any_goals (first | assumption | wp_step))
  refine codeAny_mono (code_set_led1 (.ref l) (E := E) (Q₁ := fun obj s₁ => obj = .ref s.heap.objs.size ∧ s₁ = { s with heap := s.heap.push { cls := .type "set", dict := none, data := .set #[] 0 (.fresh 0 0 (!w.params.followText "set-order")) } }) ⟨rfl, rfl⟩) fun r s₁ hr => ?_
  cases r with
  | error e => exact hr
  | ok fl =>
    cases fl with
    | ret obj =>
      obtain ⟨rfl, rfl⟩ := hr
      have hS : (s.heap.push { cls := .type "set", dict := none, data := .set #[] 0 (.fresh 0 0 (!w.params.followText "set-order")) }).get? s.heap.objs.size = some { cls := .type "set", dict := none, data := .set #[] 0 (.fresh 0 0 (!w.params.followText "set-order")) } := Heap.get?_push_size _ rfl
      have hT : Shared.TypeIs { s with heap := s.heap.push { cls := .type "set", dict := none, data := .set #[] 0 (.fresh 0 0 (!w.params.followText "set-order")) } } (.ref s.heap.objs.size) "set" := ⟨_, hS, rfl⟩
      have hli := F.called_set.init.lookup
      have hbi := F.called_set.init.bind (.ref s.heap.objs.size)
      repeat (any_goals (first | assumption | wp_step))
      refine codeAny_mono (codeAny_call_builtin (R := wants (fun r s₂ => r = .none ∧ ∃ h' tk L, s₂ = { s with heap := h', toks := tk } ∧ SM m w h' s.heap.objs.size L ∧ GotM ks ks.length L ∧
          (∀ b o, s.heap.get? b = some o → h'.get? b = some o)) E) F.called_set.init.plain F.entry_set_init (check_set_init_1 hT ?_)) fun r₂ s₂ hr₂ => ?_
      · obtain ⟨ol, hol, hcl, nl, hdl⟩ := hl
        obtain ⟨ocls, odict, odata, oslots⟩ := ol
        simp only at hcl hdl
        subst hcl; subst hdl
        have hol' : (s.heap.push { cls := .type "set", dict := none, data := .set #[] 0 (.fresh 0 0 (!w.params.followText "set-order")) }).get? l = some { cls := .type "list", dict := odict, data := .seq items nl, slots := oslots } := Heap.get?_push_of_some _ hol
        have hsls := F.sub_list_set
        have hslf := F.sub_list_frozenset
        have hne : (Value.type "list" == Value.type "dict") = false := by decide
        have hl1 : (s.heap.push { cls := .type "set", dict := none, data := .set #[] 0 (.fresh 0 0 (!w.params.followText "set-order")) }).IsList l items := ⟨_, hol', rfl, nl, rfl⟩
        unfold Builtin.«set.__init__» noKeywords Builtin.Frozenset.updateFrom
        generalize hPI : pyIter = PI
        wp_walk
        subst hPI
        refine wpAny_pyIter_list hl1 ?_
        refine wpAny_bind (wpAny_runValue ?_)
        have hlS : l < s.heap.objs.size := Heap.lt_size hol
        have hh3 : A.in1.in1.in1.handled = none := by simp [hh]
        have hneI : l ≠ (s.heap.push { cls := .type "set", dict := none, data := .set #[] 0 (.fresh 0 0 (!w.params.followText "set-order")) }).objs.size := by
          rw [Heap.size_push]; exact Nat.ne_of_lt (Nat.lt_succ_of_lt hlS)
        have hSf : s.heap.objs.size ∉ [(s.heap.push { cls := .type "set", dict := none, data := .set #[] 0 (.fresh 0 0 (!w.params.followText "set-order")) }).objs.size, l] := by
          rw [Heap.size_push]; simp only [List.mem_cons, List.mem_singleton, List.not_mem_nil, or_false, not_or]
          exact ⟨Nat.ne_of_lt (Nat.lt_succ_self _), Nat.ne_of_gt hlS⟩
        have hval : ∀ (i : Nat) (v : Value), items[i]? = some v → ∃ p, ks[i]? = some p ∧ v = p.1 := fun i v hv => by
          have q : items.toList[i]? = some v := by rw [Array.getElem?_toList]; exact hv
          rw [hit, List.getElem?_map] at q
          cases hq : ks[i]? with
          | none => rw [hq] at q; cases q
          | some p =>
            rw [hq] at q
            exact ⟨p, rfl, (Option.some.inj q).symm⟩
        have none_of : ∀ b, s.heap.objs.size ≤ b → s.heap.get? b = none := fun b hb => by
          cases q : s.heap.get? b with
          | none => rfl
          | some o => exact absurd (Nat.lt_of_lt_of_le (Heap.lt_size q) hb) (Nat.lt_irrefl _)
        refine updM (m := m) ((Walks.list hh3 _ l hneI items).toS) s.heap.objs.size
          hSf ks hisz hD hks hval s.heap hk (none_of _ (Nat.le_refl _)) (fun b hb => none_of b (by
            rw [List.mem_singleton.mp hb, Heap.size_push]
            exact Nat.le_succ _)) (by simp only [Around.in1_units]; omega) (items.size - 0) 0 _ (by omega) (Nat.zero_le _)
          ⟨⟨_, Heap.get?_push_size _ rfl, rfl, rfl⟩, (hl1.push _)⟩ (fun b o e => Heap.get?_push_of_some _ (Heap.get?_push_of_some _ e)) ?hS0 ?hR
        case hS0 =>
          exact ⟨[], sm_fresh m (Heap.get?_push_of_some _ hS), GotM.zero ks⟩
        case hR =>
          intro s' L hm hS' g' hkp
          obtain ⟨h', g2, d', tk', os'⟩ := s'
          have eg : g2 = s.gens := hm.gens
          have ed : d' = s.drawn := hm.drawn
          have eo : os' = s.os := hm.os
          subst eg; subst ed; subst eo
          show wpAny _ _ _ _ _ _
          refine wpAny_pure ?_
          show wpAny _ _ (ret Value.none) _ _ _
          rw [hisz] at g'
          exact wpAny_pure ⟨rfl, h', tk', L, rfl, hS', g', hkp⟩
      · cases r₂ with
        | error e => exact hr₂
        | ok fl₂ =>
          cases fl₂ with
          | ret r =>
            obtain ⟨rfl, h', tk, L, rfl, hS', g', hk'⟩ := hr₂
            repeat (any_goals (first | assumption | wp_step))
            exact h _ _ _ hS' g' hk'
          | _ => exact hr₂.elim
    | _ => exact hr.elim
set_option maxHeartbeats 3200000 in
theorem call_set_tupleM {l : Addr} {items : Array Value} (ks : Es) {Q : Value → Shared → Prop} (hh : A.handled = none) (hl : s.heap.IsTuple l items) (hit : items.toList = ks.map (·.1))
    (hk : ∀ p ∈ ks, KM m s.heap p.2 p.1) {D : List NestedKey} (hD : D.length + 1 < setLim m) (hks : ∀ p ∈ ks, p.2 ∈ D) (hu : A.units + 16 < cLine)
    (h : ∀ (h' : Heap) (tk : Nat) L, SM m w h' s.heap.objs.size L → GotM ks ks.length L → (∀ b o, s.heap.get? b = some o → h'.get? b = some o) → Q (.ref s.heap.objs.size) { s with heap := h', toks := tk }) :
    wpAny (model P w) A (call (.type "set") [.ref l]) Q E s := by
  have hisz : items.size = ks.length := by
    have q := congrArg List.length hit
    rw [Array.length_toList, List.length_map] at q
    exact q
  obtain ⟨c, tl, hmro⟩ := F.called_set.mro
  have hmade := F.called_set.made
  have hsub := F.called_set.sub
  refine wpAny_call (codeAny_of_tree ?_)
  show wpAny _ _ (callAny (.type "set") _) _ _ _
  refine wpAny_pure ⟨Code.quiet_builtin _ (by decide +kernel), codeAny_builtin F.entry_type_call ?_⟩
  rw [Around.under_plain (weight_type_call_type "set" [.ref l] []) rfl]
  have h1 := F.called_set.notType
  have h2 := F.called_set.canCreate
  have hct := F.typeCall_set_1 (.ref l)
  repeat (any_goals (first | assumption | wp_step))
  refine codeAny_mono (code_set_led1 (.ref l) (E := E) (Q₁ := fun obj s₁ => obj = .ref s.heap.objs.size ∧ s₁ = { s with heap := s.heap.push { cls := .type "set", dict := none, data := .set #[] 0 (.fresh 0 0 (!w.params.followText "set-order")) } }) ⟨rfl, rfl⟩) fun r s₁ hr => ?_
  cases r with
  | error e => exact hr
  | ok fl =>
    cases fl with
    | ret obj =>
      obtain ⟨rfl, rfl⟩ := hr
      have hS : (s.heap.push { cls := .type "set", dict := none, data := .set #[] 0 (.fresh 0 0 (!w.params.followText "set-order")) }).get? s.heap.objs.size = some { cls := .type "set", dict := none, data := .set #[] 0 (.fresh 0 0 (!w.params.followText "set-order")) } := Heap.get?_push_size _ rfl
      have hT : Shared.TypeIs { s with heap := s.heap.push { cls := .type "set", dict := none, data := .set #[] 0 (.fresh 0 0 (!w.params.followText "set-order")) } } (.ref s.heap.objs.size) "set" := ⟨_, hS, rfl⟩
      have hli := F.called_set.init.lookup
      have hbi := F.called_set.init.bind (.ref s.heap.objs.size)
      repeat (any_goals (first | assumption | wp_step))
      refine codeAny_mono (codeAny_call_builtin (R := wants (fun r s₂ => r = .none ∧ ∃ h' tk L, s₂ = { s with heap := h', toks := tk } ∧ SM m w h' s.heap.objs.size L ∧ GotM ks ks.length L ∧
          (∀ b o, s.heap.get? b = some o → h'.get? b = some o)) E) F.called_set.init.plain F.entry_set_init (check_set_init_1 hT ?_)) fun r₂ s₂ hr₂ => ?_
      · obtain ⟨ol, hol, hcl, nl, hdl⟩ := hl
        obtain ⟨ocls, odict, odata, oslots⟩ := ol
        simp only at hcl hdl
        subst hcl; subst hdl
        have hol' : (s.heap.push { cls := .type "set", dict := none, data := .set #[] 0 (.fresh 0 0 (!w.params.followText "set-order")) }).get? l = some { cls := .type "tuple", dict := odict, data := .seq items nl, slots := oslots } := Heap.get?_push_of_some _ hol
        have hsls := F.sub_tuple_set
        have hslf := F.sub_tuple_frozenset
        have hne : (Value.type "tuple" == Value.type "dict") = false := by decide
        have hl1 : (s.heap.push { cls := .type "set", dict := none, data := .set #[] 0 (.fresh 0 0 (!w.params.followText "set-order")) }).IsTuple l items := ⟨_, hol', rfl, nl, rfl⟩
        unfold Builtin.«set.__init__» noKeywords Builtin.Frozenset.updateFrom
        generalize hPI : pyIter = PI
        wp_walk
        subst hPI
        refine wpAny_pyIter_tuple hl1 ?_
        refine wpAny_bind (wpAny_runValue ?_)
        have hlS : l < s.heap.objs.size := Heap.lt_size hol
        have hh3 : A.in1.in1.in1.handled = none := by simp [hh]
        have hneI : l ≠ (s.heap.push { cls := .type "set", dict := none, data := .set #[] 0 (.fresh 0 0 (!w.params.followText "set-order")) }).objs.size := by
          rw [Heap.size_push]; exact Nat.ne_of_lt (Nat.lt_succ_of_lt hlS)
        have hSf : s.heap.objs.size ∉ [(s.heap.push { cls := .type "set", dict := none, data := .set #[] 0 (.fresh 0 0 (!w.params.followText "set-order")) }).objs.size, l] := by
          rw [Heap.size_push]; simp only [List.mem_cons, List.mem_singleton, List.not_mem_nil, or_false, not_or]
          exact ⟨Nat.ne_of_lt (Nat.lt_succ_self _), Nat.ne_of_gt hlS⟩
        have hval : ∀ (i : Nat) (v : Value), items[i]? = some v → ∃ p, ks[i]? = some p ∧ v = p.1 := fun i v hv => by
          have q : items.toList[i]? = some v := by rw [Array.getElem?_toList]; exact hv
          rw [hit, List.getElem?_map] at q
          cases hq : ks[i]? with
          | none => rw [hq] at q; cases q
          | some p =>
            rw [hq] at q
            exact ⟨p, rfl, (Option.some.inj q).symm⟩
        have none_of : ∀ b, s.heap.objs.size ≤ b → s.heap.get? b = none := fun b hb => by
          cases q : s.heap.get? b with
          | none => rfl
          | some o => exact absurd (Nat.lt_of_lt_of_le (Heap.lt_size q) hb) (Nat.lt_irrefl _)
        refine updM (m := m) ((Walks.tuple hh3 _ l hneI items).toS) s.heap.objs.size
          hSf ks hisz hD hks hval s.heap hk (none_of _ (Nat.le_refl _)) (fun b hb => none_of b (by
            rw [List.mem_singleton.mp hb, Heap.size_push]
            exact Nat.le_succ _)) (by simp only [Around.in1_units]; omega) (items.size - 0) 0 _ (by omega) (Nat.zero_le _)
          ⟨⟨_, Heap.get?_push_size _ rfl, rfl, rfl⟩, (hl1.push _)⟩ (fun b o e => Heap.get?_push_of_some _ (Heap.get?_push_of_some _ e)) ?hS0 ?hR
        case hS0 =>
          exact ⟨[], sm_fresh m (Heap.get?_push_of_some _ hS), GotM.zero ks⟩
        case hR =>
          intro s' L hm hS' g' hkp
          obtain ⟨h', g2, d', tk', os'⟩ := s'
          have eg : g2 = s.gens := hm.gens
          have ed : d' = s.drawn := hm.drawn
          have eo : os' = s.os := hm.os
          subst eg; subst ed; subst eo
          show wpAny _ _ _ _ _ _
          refine wpAny_pure ?_
          show wpAny _ _ (ret Value.none) _ _ _
          rw [hisz] at g'
          exact wpAny_pure ⟨rfl, h', tk', L, rfl, hS', g', hkp⟩
      · cases r₂ with
        | error e => exact hr₂
        | ok fl₂ =>
          cases fl₂ with
          | ret r =>
            obtain ⟨rfl, h', tk, L, rfl, hS', g', hk'⟩ := hr₂
            repeat (any_goals (first | assumption | wp_step))
            exact h _ _ _ hS' g' hk'
          | _ => exact hr₂.elim
    | _ => exact hr.elim
end
end PLS

namespace PLS
open PySem PySem.Spec PyProof.Rows L2
open PySem.W (dataLe dataLt alike AllAlike EachIs)
abbrev Vk := List (V × NestedKey)
def KV (m : Bool) (K : PySem.W.Frag) (H : Hp) (k : NestedKey) (v : V) : Prop := match m with
  | true => (∃ a, v = .ref a) ∧ k.depth ≤ 8 ∧ Dp K H v k.data
  | false => (∃ i, k = .num i ∧ v = .int i) ∨ ∃ x, k = .text x ∧ v = .str x
section
variable {X : Cx} {pins : List (Addr × Obj)} {σ : L2.St} {H : Hp} {s : Shared} {m : Bool}
mutual
theorem nested_of (I : Inv X pins σ H s) : ∀ (k : NestedKey) (v : V) (u : Value), Dp X.K H v k.data → RelV v u → NestedIs s.heap k u
  | .none, v, u, h, r => by
    rw [NestedKey.data] at h
    cases h
    obtain rfl : u = Value.none := r
    exact .none
  | .num i, v, u, h, r => by
    rw [NestedKey.data] at h
    cases h
    obtain ⟨t, rfl⟩ := r
    exact .int i t
  | .text x, v, u, h, r => by
    rw [NestedKey.data] at h
    cases h
    obtain ⟨t, rfl⟩ := r
    exact .text x t
  | .tup ks, v, u, h, r => by
    rw [NestedKey.data] at h
    cases h with
    | tup hq ha =>
      cases r
      obtain ⟨its, rv, ⟨o, ho, hc, n, hd⟩, _⟩ := I.tuple hq
      exact .tup ho hc hd (by simpa using nested_all I ks _ _ ha rv)
theorem nested_all (I : Inv X pins σ H s) : ∀ (ks : List NestedKey) (vs : List V) (us : List Value), DpAll X.K H vs (NestedKey.datas ks) → Vals vs us → NestedAll s.heap ks us
  | [], vs, us, h, r => by
    rw [NestedKey.datas] at h
    cases h
    cases r
    exact .nil
  | k :: ks, vs, us, h, r => by
    rw [NestedKey.datas] at h
    cases h with
    | cons h1 h2 =>
      cases r with
      | cons r1 r2 => exact .cons (nested_of I k _ _ h1 r1) (nested_all I ks _ _ h2 r2)
end
theorem KV.km (I : Inv X pins σ H s) {k : NestedKey} {v : V} {u : Value} (h : KV m X.K H k v) (r : RelV v u) : KM m s.heap k u := by
  cases m with
  | true =>
    obtain ⟨⟨a, rfl⟩, hd, hp⟩ := h
    exact ⟨nested_of I k _ _ hp r, hd, a, r⟩
  | false =>
    rcases h with ⟨i, rfl, rfl⟩ | ⟨x, rfl, rfl⟩
    · obtain ⟨t, rfl⟩ := r
      exact BK.int i t
    · obtain ⟨t, rfl⟩ := r
      exact BK.text x t
theorem KV.dp {k : NestedKey} {v : V} {K : PySem.W.Frag} (h : KV m K H k v) : Dp K H v k.data := by
  cases m with
  | true => exact h.2.2
  | false =>
    rcases h with ⟨i, rfl, rfl⟩ | ⟨x, rfl, rfl⟩
    · rw [NestedKey.data]; exact .int i
    · rw [NestedKey.data]; exact .str x
mutual
theorem data_depth : ∀ k : NestedKey, k.data.depth ≤ k.depth
  | .none => by rw [NestedKey.data, NestedKey.depth]; exact Nat.le_refl _
  | .num i => by rw [NestedKey.data, NestedKey.depth]; exact Nat.le_refl _
  | .text x => by rw [NestedKey.data, NestedKey.depth]; exact Nat.le_refl _
  | .tup ks => by
    rw [NestedKey.data, NestedKey.depth, PyData.depth]
    have := datas_depth ks
    omega
theorem datas_depth : ∀ ks : List NestedKey, PyData.depthAll (NestedKey.datas ks) ≤ NestedKey.depthAll ks
  | [] => by rw [NestedKey.datas, NestedKey.depthAll]; exact Nat.le_refl _
  | k :: ks => by
    rw [NestedKey.datas, NestedKey.depthAll, PyData.depthAll]
    have := data_depth k
    have := datas_depth ks
    omega
end
theorem KV.deep {k : NestedKey} {v : V} {K : PySem.W.Frag} (h : KV m K H k v) : k.data.depth ≤ 8 := by
  refine Nat.le_trans (data_depth k) ?_
  cases m with
  | true => exact h.2.1
  | false =>
    rcases h with ⟨i, rfl, rfl⟩ | ⟨x, rfl, rfl⟩ <;> (rw [NestedKey.depth]; omega)
def SM0 (m : Bool) (w : World) (h : Heap) (a : Addr) (L : Vk) : Prop := ∃ (L' : Es) (h0 : Heap), SM m w h0 a L' ∧ (∀ o, h0.get? a = some o → h.get? a = some o) ∧ Vals (L.map (·.1)) (L'.map (·.1)) ∧ L'.map (·.2) = L.map (·.2)
def SetMO (m : Bool) (w : World) (a : Addr) (L : Vk) : HO := .ext fun h => SM0 m w h a L
theorem setMO_new {P : Program} {w : World} {H : Hp} {h : Heap} {a : Addr} {L : Vk} (R : SM0 m w h a L) : ObjOk P w H h a (SetMO m w a L) := by
  obtain ⟨L', h0, S, k, r⟩ := id R
  obtain ⟨o, _, _, _, ho, _⟩ := S.ob
  refine ⟨R, ⟨o, k o ho⟩, fun h1 h2 p q => ?_⟩
  obtain ⟨L2, h3, S2, k2, r2⟩ := p
  exact ⟨L2, h3, S2, fun o e => q o (k2 o e), r2⟩
theorem zip_vals : ∀ {L : Vk} {L' : Es}, Vals (L.map (·.1)) (L'.map (·.1)) → L'.map (·.2) = L.map (·.2) → ∀ p ∈ L', ∃ q ∈ L, RelV q.1 p.1 ∧ p.2 = q.2
  | [], [], _, _, p, hp => by cases hp
  | [], _ :: _, h, _, _, _ => by cases h
  | _ :: _, [], h, _, _, _ => by cases h
  | q :: L, p :: L', h, e, r, hr => by
    cases h with
    | cons h1 h2 =>
      injection e with e1 e2
      rcases List.mem_cons.mp hr with rfl | hr
      · exact ⟨q, List.mem_cons_self, h1, e1⟩
      · obtain ⟨q', a, b⟩ := zip_vals h2 e2 r hr
        exact ⟨q', List.mem_cons_of_mem _ a, b⟩
theorem sm0_get (I : Inv X pins σ H s) {a : Addr} {L : Vk} (h : H a = some (SetMO m X.w a L)) (hk : ∀ p ∈ L, KV m X.K H p.2 p.1) : ∃ L' : Es, SM m X.w s.heap a L' ∧ Vals (L.map (·.1)) (L'.map (·.1)) ∧ L'.map (·.2) = L.map (·.2) := by
  have R : SM0 m X.w s.heap a L := (I.hok a _ h).1
  obtain ⟨L', h0, S, k, r1, r2⟩ := R
  refine ⟨L', S.keep k fun p hp => ?_, r1, r2⟩
  obtain ⟨q, hq, e1, e2⟩ := zip_vals r1 r2 p hp
  rw [e2]
  exact (hk q hq).km I e1
def KVs (m : Bool) (K : PySem.W.Frag) (H : Hp) (zs : Vk) : Prop := ∀ z ∈ zs, KV m K H z.2 z.1
theorem es_of {zs : Vk} {us : List Value} (r : Vals (zs.map (·.1)) us) : ∃ ks : Es, us = ks.map (·.1) ∧ ks.map (·.2) = zs.map (·.2) ∧ (∀ p ∈ ks, ∃ z ∈ zs, RelV z.1 p.1 ∧ p.2 = z.2) := by
  have e1 : (us.zip (zs.map (·.2))).map (·.1) = us := List.map_fst_zip (by rw [List.length_map, ← r.length, List.length_map]; exact Nat.le_refl _)
  have e2 : (us.zip (zs.map (·.2))).map (·.2) = zs.map (·.2) := List.map_snd_zip (by rw [List.length_map, ← r.length, List.length_map]; exact Nat.le_refl _)
  exact ⟨us.zip (zs.map (·.2)), e1.symm, e2, zip_vals (by rw [e1]; exact r) e2⟩
theorem back_vk {zs : Vk} : ∀ (L : Es), (∀ p ∈ L, ∃ z ∈ zs, RelV z.1 p.1 ∧ p.2 = z.2) → ∃ L' : Vk, (∀ z ∈ L', z ∈ zs) ∧ Vals (L'.map (·.1)) (L.map (·.1)) ∧ L.map (·.2) = L'.map (·.2)
  | [], _ => ⟨[], fun z hz => (by cases hz), .nil, rfl⟩
  | p :: L, h => by
    obtain ⟨z, hz, r1, r2⟩ := h p List.mem_cons_self
    obtain ⟨L', a, b, c⟩ := back_vk L fun q hq => h q (List.mem_cons_of_mem _ hq)
    refine ⟨z :: L', fun y hy => ?_, .cons r1 b, by rw [List.map_cons, List.map_cons, c, r2]⟩
    rcases List.mem_cons.mp hy with e | e
    · rw [e]; exact hz
    · exact a y e
def rSetM (K : PySem.W.Frag) (w : World) : List V → Hp → VK → Prop := fun xs H Q => ∃ (m : Bool) (l : Addr) (zs : Vk) (D : List NestedKey), xs = [V.ref l] ∧ (SqL K H l (zs.map (·.1)) ∨ SqT K H l (zs.map (·.1))) ∧ KVs m K H zs ∧ D.length + 1 < setLim m ∧ (∀ z ∈ zs, z.2 ∈ D) ∧
  ∀ a L, H a = none → (∀ z ∈ L, z ∈ zs) → (L.map (·.2)).Nodup → (∀ z ∈ zs, z.2 ∈ L.map (·.2)) → Q (.ref a) (upd H a (SetMO m w a L))
theorem cr_setM (hc : X.calm = true) (hu : X.A.units + 64 < cLine) : CallR X (.type "set") (rSetM X.K X.w) := by
  intro pins s σ H xs us Q I r h
  obtain ⟨m, l, zs, D, rfl, hl, hk, hD, hs, q⟩ := h
  rw [Vals.ref1 r]
  have fin : ∀ (its : List Value), Vals (zs.map (·.1)) its → ∀ ks : Es, its = ks.map (·.1) → ks.map (·.2) = zs.map (·.2) → (∀ p ∈ ks, ∃ z ∈ zs, RelV z.1 p.1 ∧ p.2 = z.2) →
      ∀ (h' : Heap) (tk : Nat) L, SM m X.w h' s.heap.objs.size L → GotM ks ks.length L → (∀ b o, s.heap.get? b = some o → h'.get? b = some o) → EP X pins σ Q (.ref s.heap.objs.size) { s with heap := h', toks := tk } := fun its rv ks e1 e2 e3 h' tk L R g k => by
    obtain ⟨L', a1, a2, a3⟩ := back_vk L fun p hp => e3 p (List.mem_of_mem_take (g.sub p hp))
    have hn : H s.heap.objs.size = none := I.hok.fresh (Nat.le_refl _)
    refine ⟨.ref s.heap.objs.size, upd H s.heap.objs.size (SetMO m X.w s.heap.objs.size L'), I.laid (t' := tk) k (Nat.le_refl _) (setMO_new ⟨L, h', R, fun o e => e, a2, a3⟩), rfl, q _ L' hn a1 ?_ fun z hz => ?_⟩
    · rw [← a3]
      obtain ⟨_, _, _, _, _, _, _, _, _, _, _, _, nd⟩ := R.ob
      exact nd
    · rw [← a3]
      have hz2 : z.2 ∈ ks.map (·.2) := by rw [e2]; exact List.mem_map.mpr ⟨z, hz, rfl⟩
      obtain ⟨p, hp, ep⟩ := List.mem_map.mp hz2
      rw [← ep]
      exact g.all p (by rw [List.take_length]; exact hp)
  rcases hl with hl | hl
  · obtain ⟨its, rv, pl, hz⟩ := I.list hl
    obtain ⟨ks, e1, e2, e3⟩ := es_of rv
    refine call_set_listM (P := X.prog) (w := X.w) (m := m) (D := D) ks (I.ok.hd hc) pl.isList (by simpa using e1) (fun p hp => ?_) hD (fun p hp => ?_) (by omega) fun h' tk L R g k => fin its rv ks e1 e2 e3 h' tk L R g k
    · obtain ⟨z, hz, r1, r2⟩ := e3 p hp
      rw [r2]
      exact (hk z hz).km I r1
    · obtain ⟨z, hz, r1, r2⟩ := e3 p hp
      rw [r2]
      exact hs z hz
  · obtain ⟨its, rv, pl, hz⟩ := I.tuple hl
    obtain ⟨ks, e1, e2, e3⟩ := es_of rv
    refine call_set_tupleM (P := X.prog) (w := X.w) (m := m) (D := D) ks (I.ok.hd hc) pl (by simpa using e1) (fun p hp => ?_) hD (fun p hp => ?_) (by omega) fun h' tk L R g k => fin its rv ks e1 e2 e3 h' tk L R g k
    · obtain ⟨z, hz, r1, r2⟩ := e3 p hp
      rw [r2]
      exact (hk z hz).km I r1
    · obtain ⟨z, hz, r1, r2⟩ := e3 p hp
      rw [r2]
      exact hs z hz
end
theorem perm_map {α β : Type} {f : α → β} : ∀ {l m : List β}, l.Perm m → ∀ L : List α, m = L.map f → ∃ L2 : List α, l = L2.map f ∧ L2.Perm L := by
  intro l m h
  induction h with
  | nil => intro L e; exact ⟨L, e, .refl _⟩
  | @cons x l m _ ih =>
    intro L e
    cases L with
    | nil => cases e
    | cons p L =>
      injection e with e1 e2
      obtain ⟨L2, a, b⟩ := ih L e2
      exact ⟨p :: L2, by rw [a, e1]; rfl, b.cons p⟩
  | swap x y l =>
    intro L e
    match L, e with
    | p :: q :: L, e =>
      injection e with e1 e2
      injection e2 with e2 e3
      exact ⟨q :: p :: L, by rw [e1, e2, e3]; rfl, .swap _ _ _⟩
  | trans _ _ ih1 ih2 =>
    intro L e
    obtain ⟨L2, a, b⟩ := ih2 L e
    obtain ⟨L3, c, d⟩ := ih1 L2 a
    exact ⟨L3, c, d.trans b⟩
theorem each_self {β : Type} {R : Value → β → Prop} {f : β → Value} : ∀ (l : List β), (∀ b ∈ l, R (f b) b) → EachIs R (l.map f) l
  | [], _ => .nil
  | b :: l, h => .cons (h b List.mem_cons_self) (each_self l fun c hc => h c (List.mem_cons_of_mem _ hc))
theorem each_eq {β : Type} {f : β → Value} : ∀ {vs : List Value} {bs : List β}, EachIs (fun v b => v = f b) vs bs → vs = bs.map f
  | _, _, .nil => rfl
  | _, _, .cons h t => by rw [h, each_eq t]; rfl
section
variable {P : Program} {w : World} {A : Around} {E : Value → Shared → Prop} {s : Shared} {m : Bool} {a : Addr} {L : Es}
theorem sorted_setM {Q : Value → Shared → Prop} (R : SM m w s.heap a L) (hh : A.handled = none) (er : ∀ p ∈ L, ∃ as, Reads s.heap p.1 p.2.data as) (hal : AllAlike (L.map fun p => p.2.data)) (hk : PySem.W.Sortable (L.map fun p => p.2.data)) (hdp : ∀ p ∈ L, p.2.data.depth ≤ 8) (hu : A.units + 64 < cLine)
    (hQ : ∀ s' p (out : List Value) (c : Nat) (L1 : Es), (∀ b o, s.heap.get? b = some o → s'.heap.get? b = some o) → s'.gens = s.gens → s'.os = s.os → s.heap.objs.size ≤ p →
      s'.heap.get? p = some (seqObj "list" out.toArray c) → L1.Perm L → out = (L1.mergeSort (dataLe false fun p => p.2.data)).map (·.1) → Q (.ref p) s') :
    wpAny (model P w) A (call (.builtin "sorted") [.ref a]) Q E s := by
  obtain ⟨o, es, ep, t, ho, hex, hd, hf, hri, hld, hr, fw, nd⟩ := R.ob
  have fl := lim_le m
  have hsz : es.size = L.length := rws_len hr
  refine Calls.call_function_entry kind_sorted plain_sorted entry_sorted (args_sorted1 _) ?_
  unfold Builtin.«sorted»
  refine wpAny_bind (m := checkCount "sorted" 1 1 _) (wpAny_pure ?_)
  refine wpAny_bind (collect_set (A := A.in1) hh ⟨o, ho, hex.1, hd⟩ hf (by unfold scanBound; omega) hri hld fun s1 vs k1 hz g1 o1 pm => ?_)
  have hes : es.toList.map (·.2) = L.map (·.1) := by
    rw [hr]
    unfold rws
    rw [List.map_map]
    rfl
  rw [hes] at pm
  obtain ⟨L1, e1, p1⟩ := perm_map (f := fun p : Value × NestedKey => p.1) pm L rfl
  have hvl : vs.length ≤ sizeLine := by rw [pm.length_eq, List.length_map, sizeLine_eq]; omega
  refine wpAny_bind (wpAny_newList ?_ hvl)
  have hoL : (s1.heap.push (seqObj "list" vs.toArray 0)).get? s1.heap.objs.size = some (seqObj "list" vs.toArray 0) := Heap.get?_push_size _ rfl
  have hm1 : ∀ p ∈ L1, p ∈ L := fun p hp => p1.mem_iff.mp hp
  have hmd : (L1.map fun p => p.2.data).Perm (L.map fun p => p.2.data) := p1.map _
  have al1 : AllAlike (L1.map fun p => p.2.data) := fun x hx y hy => hal x (hmd.mem_iff.mp hx) y (hmd.mem_iff.mp hy)
  have so1 : PySem.W.Sortable (L1.map fun p => p.2.data) := by
    rcases hk with h | h
    · exact .inl fun d hd => h d (hmd.mem_iff.mp hd)
    · exact .inr fun d hd => h d (hmd.mem_iff.mp hd)
  have ekeep : ∀ b u, s.heap.get? b = some u → (PySem.W.sortingHeap (s1.heap.push (seqObj "list" vs.toArray 0)) s1.heap.objs.size vs).get? b = some u := fun b u q => by
    have q1 := k1 b u q
    exact PySem.W.sortingHeap_old (Nat.ne_of_lt (Heap.lt_size q1)) (Heap.get?_push_of_some _ q1)
  have er' : EachIs (fun v (b : Value × NestedKey) => ∃ as, Reads (PySem.W.sortingHeap (s1.heap.push (seqObj "list" vs.toArray 0)) s1.heap.objs.size vs) v b.2.data as) vs L1 := by
    rw [e1]
    refine each_self L1 fun p hp => ?_
    obtain ⟨as, r⟩ := er p (hm1 p hp)
    exact ⟨as, PyProof.Rows.Reads.keeps (by rw [← e1]; exact ekeep) r⟩
  have es' : EachIs (fun v (b : Value × NestedKey) => v = b.1) vs L1 := by
    rw [e1]
    exact each_self L1 fun p hp => rfl
  refine wpAny_bind (wpAny_holding (wpAny_call_entry slot_list_sort ⟨_, hoL, rfl⟩ entry_list_sort (PySem.W.list_sort_vals (κ := PySem.W.dataKind (PySem.W.sortingHeap (s1.heap.push (seqObj "list" vs.toArray 0)) s1.heap.objs.size vs) (L1.map fun p => p.2.data)) hoL
    (PySem.W.SortsAt.data (s := { s1 with heap := PySem.W.sortingHeap (s1.heap.push (seqObj "list" vs.toArray 0)) s1.heap.objs.size vs }) (PySem.W.each_map (R := fun v d => ∃ as, Reads (PySem.W.sortingHeap (s1.heap.push (seqObj "list" vs.toArray 0)) s1.heap.objs.size vs) v d as) (fun p : Value × NestedKey => p.2.data) er') al1 so1 (PySem.W.bound_map fun b hb => ?_)) hvl ⟨.none, rfl, ?_⟩) (args_list_sort _)))
  · have := hdp b (hm1 b hb)
    simp only [Around.in1_units]
    omega
  · have so := PySem.W.sortVals_data false (R := fun v (b : Value × NestedKey) => v = b.1) (enc := fun p => p.2.data) es' er' al1
    have eo := each_eq so
    obtain ⟨c, hc⟩ := sortedHeap_at (vs := vs) (out := (PySem.W.sortVals (PySem.W.dataKind (PySem.W.sortingHeap (s1.heap.push (seqObj "list" vs.toArray 0)) s1.heap.objs.size vs) (L1.map fun p => p.2.data)) false vs vs).toArray) hoL
    refine wpAny_pure ⟨_, rfl, hQ _ s1.heap.objs.size _ c L1 (fun b u e => ?_) g1 o1 hz hc p1 eo⟩
    have q := k1 b u e
    have hlt := Heap.lt_size q
    show (sortedHeap (s1.heap.push (seqObj "list" vs.toArray 0)) s1.heap.objs.size vs _).get? b = some u
    rw [sortedHeap_old (Nat.ne_of_lt hlt) (by rw [size_push']; exact Nat.lt_succ_of_lt hlt)]
    exact Heap.get?_push_of_some _ q
end
section
variable {X : Cx} {pins : List (Addr × Obj)} {σ : L2.St} {H : Hp} {s : Shared} {m : Bool}
theorem perm_back : ∀ {L : Vk} {L' : Es}, Vals (L.map (·.1)) (L'.map (·.1)) → L'.map (·.2) = L.map (·.2) → ∃ Z : List ((V × NestedKey) × (Value × NestedKey)), L = Z.map (·.1) ∧ L' = Z.map (·.2) ∧ ∀ z ∈ Z, RelV z.1.1 z.2.1 ∧ z.2.2 = z.1.2
  | [], [], _, _ => ⟨[], rfl, rfl, fun z hz => (by cases hz)⟩
  | [], _ :: _, h, _ => by cases h
  | _ :: _, [], h, _ => by cases h
  | q :: L, p :: L', h, e => by
    cases h with
    | cons h1 h2 =>
      injection e with e1 e2
      obtain ⟨Z, a, b, c⟩ := perm_back h2 e2
      refine ⟨(q, p) :: Z, by rw [a]; rfl, by rw [b]; rfl, fun z hz => ?_⟩
      rcases List.mem_cons.mp hz with rfl | hz
      · exact ⟨h1, e1⟩
      · exact c z hz
theorem vals_map {α : Type} {f : α → V} {g : α → Value} : ∀ (l : List α), (∀ z ∈ l, RelV (f z) (g z)) → Vals (l.map f) (l.map g)
  | [], _ => .nil
  | z :: l, h => .cons (h z List.mem_cons_self) (vals_map l fun y hy => h y (List.mem_cons_of_mem _ hy))
def rSortedM (K : PySem.W.Frag) (w : World) : List V → Hp → VK → Prop := fun vs H Q => ∃ (m : Bool) (a : Addr) (L : Vk), vs = [V.ref a] ∧ H a = some (SetMO m w a L) ∧ KVs m K H L ∧ AllAlike (L.map fun z => z.2.data) ∧ PySem.W.Sortable (L.map fun z => z.2.data) ∧
  ∀ (L1 : Vk) (p : Addr), L1.Perm L → H p = none → Q (.ref p) (upd H p (.lst ((L1.mergeSort (dataLe false fun z => z.2.data)).map (·.1))))
theorem cr_sortedM (hc : X.calm = true) (hu : X.A.units + 64 < cLine) : CallR X (.builtin "sorted") (rSortedM X.K X.w) := by
  intro pins s σ H vs us Q I r h
  obtain ⟨m, a, L, rfl, ha, hk, al, so, q⟩ := h
  rw [Vals.ref1 r]
  obtain ⟨L', R, r1, r2⟩ := sm0_get I ha hk
  obtain ⟨Z, eL, eL', hZ⟩ := perm_back r1 r2
  have ed : (L'.map fun p => p.2.data) = L.map fun z => z.2.data := by
    have h1 : (L'.map fun p => p.2.data) = (L'.map (·.2)).map NestedKey.data := by rw [List.map_map]; rfl
    have h2 : (L.map fun p => p.2.data) = (L.map (·.2)).map NestedKey.data := by rw [List.map_map]; rfl
    rw [h1, h2, r2]
  refine sorted_setM R (I.ok.hd hc) (fun p hp => ?_) (by rw [ed]; exact al) (by rw [ed]; exact so) (fun p hp => ?_) hu fun s' p out c L1 k g o hp hg pm eo => ?_
  · obtain ⟨z, hz, e1, e2⟩ := zip_vals r1 r2 p hp
    rw [e2]
    exact Dp.reads I _ _ _ (hk z hz).dp e1
  · obtain ⟨z, hz, e1, e2⟩ := zip_vals r1 r2 p hp
    rw [e2]
    exact (hk z hz).deep
  · rw [eL'] at pm
    obtain ⟨Z1, e1, p1⟩ := perm_map pm Z rfl
    have em : (Z1.mergeSort (dataLe false fun z => z.2.2.data)).map (·.2) = L1.mergeSort (dataLe false fun p => p.2.data) := by
      rw [e1]
      exact List.map_mergeSort (r := dataLe false fun z : (V × NestedKey) × (Value × NestedKey) => z.2.2.data) (s := dataLe false fun p : Value × NestedKey => p.2.data) (f := fun z : (V × NestedKey) × (Value × NestedKey) => z.2) fun _ _ _ _ => rfl
    have mZ : ∀ z ∈ Z1, RelV z.1.1 z.2.1 ∧ z.2.2 = z.1.2 := fun z hz => hZ z (p1.mem_iff.mp hz)
    have eV : (Z1.mergeSort (dataLe false fun z => z.2.2.data)).map (·.1) = (Z1.map (·.1)).mergeSort (dataLe false fun p => p.2.data) := by
      refine List.map_mergeSort (r := dataLe false fun z : (V × NestedKey) × (Value × NestedKey) => z.2.2.data) (s := dataLe false fun p : V × NestedKey => p.2.data) (f := fun z : (V × NestedKey) × (Value × NestedKey) => z.1) fun x hx y hy => ?_
      rw [PySem.W.dataLe_eq, PySem.W.dataLe_eq]
      dsimp only
      rw [(mZ x hx).2, (mZ y hy).2]
    have mS : ∀ z ∈ Z1.mergeSort (dataLe false fun z => z.2.2.data), RelV z.1.1 z.2.1 := fun z hz => (mZ z ((List.mergeSort_perm _ _).mem_iff.mp hz)).1
    have hv : Vals (((Z1.map (·.1)).mergeSort (dataLe false fun p => p.2.data)).map (·.1)) out := by
      rw [eo, ← em, ← eV, List.map_map, List.map_map]
      exact vals_map _ mS
    have hn : H p = none := I.hok.fresh hp
    have hlen : (((Z1.map (·.1)).mergeSort (dataLe false fun p => p.2.data)).map (·.1)).length ≤ sizeLine := by
      obtain ⟨_, _, _, _, _, _, _, _, _, _, _, fw, _⟩ := R.ob
      have fl := lim_le m
      rw [List.length_map, List.length_mergeSort, List.length_map, p1.length_eq, ← List.length_map (·.2), ← eL', sizeLine_eq]
      omega
    have J : Inv X pins σ (upd H p (.lst (((Z1.map (·.1)).mergeSort (dataLe false fun p => p.2.data)).map (·.1)))) { s with heap := s'.heap, gens := s'.gens, drawn := s'.drawn, toks := s'.toks } :=
      I.call (ch := []) (Un.laid k hp hn) (I.hok.laid k hp ⟨hlen, out, c, hv, hg⟩) (by rw [g]; exact I.bare) (fun _ z => nomatch z)
    have e : s' = { s with heap := s'.heap, gens := s'.gens, drawn := s'.drawn, toks := s'.toks } := by
      cases s'
      cases s
      cases o
      rfl
    rw [e]
    exact ⟨.ref p, _, J, rfl, q (Z1.map (·.1)) p (by rw [eL]; exact p1.map _) hn⟩
end
end PLS

namespace PL
open PySem PySem.Spec PyProof.Rows L2 PLS
open PySem.W (dataLe dataLt alike AllAlike EachIs)
mutual
def toK : Pv → NestedKey
  | .int i => .num i | .str x => .text x | .tup xs => .tup (toKs xs) | _ => .none
def toKs : List Pv → List NestedKey
  | [] => []
  | p :: ps => toK p :: toKs ps
end
mutual
def isK : Pv → Bool
  | .int _ => true | .str _ => true | .tup xs => isKs xs | _ => false
def isKs : List Pv → Bool
  | [] => true
  | p :: ps => isK p && isKs ps
end
mutual
theorem toK_inj : ∀ x y : Pv, isK x = true → isK y = true → toK x = toK y → x = y
  | .int i, y, _, hy, e => by
    cases y with
    | int j => simp only [toK] at e; injection e with e; rw [e]
    | str z => simp only [toK] at e; cases e
    | tup ys => simp only [toK] at e; cases e
    | _ => simp [isK] at hy
  | .str x, y, _, hy, e => by
    cases y with
    | int j => simp only [toK] at e; cases e
    | str z => simp only [toK] at e; injection e with e; rw [e]
    | tup ys => simp only [toK] at e; cases e
    | _ => simp [isK] at hy
  | .tup xs, y, hx, hy, e => by
    cases y with
    | int j => simp only [toK] at e; cases e
    | str z => simp only [toK] at e; cases e
    | tup ys =>
      simp only [toK] at e
      injection e with e
      rw [toKs_inj xs ys (by simpa [isK] using hx) (by simpa [isK] using hy) e]
    | _ => simp [isK] at hy
  | .non, _, h, _, _ => by simp [isK] at h
  | .bl _, _, h, _, _ => by simp [isK] at h
  | .lst _, _, h, _, _ => by simp [isK] at h
  | .dct _ _, _, h, _, _ => by simp [isK] at h
  | .ref _, _, h, _, _ => by simp [isK] at h
  | .ty _, _, h, _, _ => by simp [isK] at h
  | .scr _, _, h, _, _ => by simp [isK] at h
  | .tpx _, _, h, _, _ => by simp [isK] at h
theorem toKs_inj : ∀ xs ys : List Pv, isKs xs = true → isKs ys = true → toKs xs = toKs ys → xs = ys
  | [], [], _, _, _ => rfl
  | [], _ :: _, _, _, e => by simp [toKs] at e
  | _ :: _, [], _, _, e => by simp [toKs] at e
  | x :: xs, y :: ys, hx, hy, e => by
    simp only [isKs, Bool.and_eq_true] at hx hy
    simp only [toKs] at e
    injection e with e1 e2
    rw [toK_inj x y hx.1 hy.1 e1, toKs_inj xs ys hx.2 hy.2 e2]
end
mutual
theorem toK_data : ∀ x : Pv, isK x = true → (toK x).data = toD x
  | .int i, _ => by rw [toK, NestedKey.data, toD]
  | .str x, _ => by rw [toK, NestedKey.data, toD]
  | .tup xs, h => by rw [toK, NestedKey.data, toD, toKs_data xs (by simpa [isK] using h)]
  | .non, h => by simp [isK] at h
  | .bl _, h => by simp [isK] at h
  | .lst _, h => by simp [isK] at h
  | .dct _ _, h => by simp [isK] at h
  | .ref _, h => by simp [isK] at h
  | .ty _, h => by simp [isK] at h
  | .scr _, h => by simp [isK] at h
  | .tpx _, h => by simp [isK] at h
theorem toKs_data : ∀ xs : List Pv, isKs xs = true → NestedKey.datas (toKs xs) = toDs xs
  | [], _ => by rw [toKs, NestedKey.datas, toDs]
  | x :: xs, h => by
    simp only [isKs, Bool.and_eq_true] at h
    rw [toKs, NestedKey.datas, toDs, toK_data x h.1, toKs_data xs h.2]
end
mutual
theorem isK_isD : ∀ x : Pv, isK x = true → isD x = true
  | .int i, _ => by rw [isD]
  | .str x, _ => by rw [isD]
  | .tup xs, h => by rw [isD]; exact isKs_isDs xs (by simpa [isK] using h)
  | .non, h => by simp [isK] at h
  | .bl _, h => by simp [isK] at h
  | .lst _, h => by simp [isK] at h
  | .dct _ _, h => by simp [isK] at h
  | .ref _, h => by simp [isK] at h
  | .ty _, h => by simp [isK] at h
  | .scr _, h => by simp [isK] at h
  | .tpx _, h => by simp [isK] at h
theorem isKs_isDs : ∀ xs : List Pv, isKs xs = true → isDs xs = true
  | [], _ => rfl
  | x :: xs, h => by
    simp only [isKs, Bool.and_eq_true] at h
    rw [isDs, isK_isD x h.1, isKs_isDs xs h.2]
    rfl
end
def kOk (m : Bool) : Pv → Prop
  | .int _ => m = false
  | .str _ => m = false
  | .tup xs => m = true ∧ isKs xs = true ∧ (toK (.tup xs)).depth ≤ 8
  | _ => False
theorem kOk.isK {m : Bool} {x : Pv} (h : kOk m x) : isK x = true := by
  cases x with
  | int i => rfl
  | str x => rfl
  | tup xs => rw [PL.isK]; exact h.2.1
  | _ => exact (show False from h).elim
theorem kOk.kv {m : Bool} {x : Pv} {K : PySem.W.Frag} {H : Hp} {S : Sto} {v : V} (h : kOk m x) (r : RepV K H S x v) : KV m K H (toK x) v := by
  cases x with
  | int i =>
    obtain rfl : m = false := h
    have e : v = .int i := r
    exact .inl ⟨i, by rw [toK], e⟩
  | str x =>
    obtain rfl : m = false := h
    have e : v = .str x := r
    exact .inr ⟨x, by rw [toK], e⟩
  | tup xs =>
    obtain ⟨rfl, h1, h2⟩ := h
    have hd := dp_of (.tup xs) v r (isK_isD _ (by rw [PL.isK]; exact h1))
    obtain ⟨a, vs, e1, _⟩ := r
    refine ⟨⟨a, e1⟩, h2, ?_⟩
    rw [toK_data _ (by rw [PL.isK]; exact h1)]
    exact hd
  | _ => exact (show False from h).elim
def setOk (xs : List Pv) : Prop := (∃ m, ∀ x ∈ xs, kOk m x) ∧ ∃ D : List Pv, D.length < 75 ∧ ∀ x ∈ xs, x ∈ D
def setOf (xs ys : List Pv) : Prop := ys.Nodup ∧ ∀ y, y ∈ ys ↔ y ∈ xs
def sqP (S : Sto) : Pv → Option (List Pv)
  | .tup xs => some xs
  | x => rdL S x
theorem sqP_rep {K : PySem.W.Frag} {H : Hp} {S : Sto} (rs : RepS K H S) {p : Pv} {v : V} {xs : List Pv} (h : RepV K H S p v) (e : sqP S p = some xs) : ∃ a vs, v = .ref a ∧ (SqL K H a vs ∨ SqT K H a vs) ∧ RepVs K H S xs vs := by
  by_cases q : ∃ ys, p = .tup ys
  · obtain ⟨ys, rfl⟩ := q
    have e' : ys = xs := by simpa [sqP] using e
    subst e'
    obtain ⟨t, vs, e1, hq, r⟩ := h
    exact ⟨t, vs, e1, .inr hq, r⟩
  · have e' : rdL S p = some xs := by
      rw [← e]
      cases p <;> first | rfl | exact (q ⟨_, rfl⟩).elim
    obtain ⟨a, vs, e1, hq, r⟩ := rdL_rep rs h e'
    exact ⟨a, vs, e1, .inl hq, r⟩
def oSortedSet : On := fun ps S Q => match ps with
  | [x] => (match sqP S x with | some xs => setOk xs ∧ AllAlike (xs.map toD) ∧ PySem.W.Sortable (xs.map toD) ∧ ∀ ys, setOf xs ys → Q (.lst (sortP ys)) S | none => False)
  | _ => False
theorem row_of {K : PySem.W.Frag} {H : Hp} {S : Sto} {xs : List Pv} {vs : List V} (r : RepVs K H S xs vs) : ∀ (L : Vk), (∀ z ∈ L, z ∈ vs.zip (xs.map toK)) → ∃ ys : List Pv, L.map (·.2) = ys.map toK ∧ RepVs K H S ys (L.map (·.1)) ∧ ∀ y ∈ ys, y ∈ xs
  | [], _ => ⟨[], rfl, rfl, fun y hy => (by cases hy)⟩
  | z :: L, h => by
    obtain ⟨ys, a, b, c⟩ := row_of r L fun y hy => h y (List.mem_cons_of_mem _ hy)
    have hz := h z List.mem_cons_self
    rw [List.zip_map_right] at hz
    obtain ⟨q, hq, e⟩ := List.mem_map.mp hz
    have rq := r.zip q hq
    refine ⟨q.2 :: ys, ?_, ⟨z.1, L.map (·.1), rfl, ?_, b⟩, fun y hy => ?_⟩
    · rw [List.map_cons, List.map_cons, a, ← e]
      rfl
    · rw [← e]
      exact rq
    · rcases List.mem_cons.mp hy with rfl | hy
      · exact (List.of_mem_zip hq).2
      · exact c y hy
theorem nodup_map_of {f : Pv → NestedKey} : ∀ {l : List Pv}, (l.map f).Nodup → l.Nodup := fun {l} h => List.Pairwise.of_map f (fun _ _ hne e => hne (congrArg f e)) h
theorem set_row {K : PySem.W.Frag} {H : Hp} {S : Sto} {xs : List Pv} {vs : List V} (r : RepVs K H S xs vs) (hk : ∀ x ∈ xs, isK x = true) {L : Vk} (h1 : ∀ z ∈ L, z ∈ vs.zip (xs.map toK)) (h2 : (L.map (·.2)).Nodup) (h3 : ∀ z ∈ vs.zip (xs.map toK), z.2 ∈ L.map (·.2)) :
    ∃ ys : List Pv, setOf xs ys ∧ L.map (·.2) = ys.map toK ∧ RepVs K H S ys (L.map (·.1)) := by
  obtain ⟨ys, a, b, c⟩ := row_of r L h1
  refine ⟨ys, ⟨nodup_map_of (by rw [← a]; exact h2), fun y => ⟨c y, fun hy => ?_⟩⟩, a, b⟩
  have hy2 : toK y ∈ (vs.zip (xs.map toK)).map (·.2) := by
    rw [List.map_snd_zip (by rw [List.length_map, r.len]; exact Nat.le_refl _)]
    exact List.mem_map.mpr ⟨y, hy, rfl⟩
  obtain ⟨z, hz, ez⟩ := List.mem_map.mp hy2
  have hm := h3 z hz
  rw [ez, a] at hm
  obtain ⟨y', hy', e⟩ := List.mem_map.mp hm
  rw [← toK_inj y' y (hk _ (c _ hy')) (hk y hy) e]
  exact hy'
section
variable {X : Cx} {S0 : Sto} {H0 : Hp} {a : Expr} {fs : PFs} {pos p p2 q : Pos}
theorem zip_fst {K : PySem.W.Frag} {H : Hp} {S : Sto} {xs : List Pv} {vs : List V} (r : RepVs K H S xs vs) : (vs.zip (xs.map toK)).map (·.1) = vs := List.map_fst_zip (by rw [List.length_map, r.len]; exact Nat.le_refl _)
theorem kvs_of {K : PySem.W.Frag} {H : Hp} {S : Sto} {xs : List Pv} {vs : List V} {m : Bool} (r : RepVs K H S xs vs) (h : ∀ x ∈ xs, kOk m x) : KVs m K H (vs.zip (xs.map toK)) := fun z hz => by
  rw [List.zip_map_right] at hz
  obtain ⟨y, hy, e⟩ := List.mem_map.mp hz
  rw [← e]
  exact (h y.2 (List.of_mem_zip hy).2).kv (r.zip y hy)
theorem dset {K : PySem.W.Frag} {xs D : List Pv} {vs : List V} (hd : ∀ x ∈ xs, x ∈ D) : ∀ z ∈ vs.zip (xs.map toK), z.2 ∈ D.map toK := fun z hz => by
  obtain ⟨x, hx, e⟩ := List.mem_map.mp (List.of_mem_zip hz).2
  exact List.mem_map.mpr ⟨x, hd x hx, e⟩
theorem KV.upd {m : Bool} {K : PySem.W.Frag} {H : Hp} {S : Sto} {a : Addr} {o : HO} {x : Pv} {v : V} (rs : RepS K H S) (hn : H a = none) (h : kOk m x) (r : RepV K H S x v) : KV m K (upd H a o) (toK x) v :=
  h.kv (RepV.ext rs (Ext.newT (K := K) hn) _ _ r)
theorem kvs_upd {m : Bool} {K : PySem.W.Frag} {H : Hp} {S : Sto} {xs : List Pv} {vs : List V} {a : Addr} {o : HO} (rs : RepS K H S) (hn : H a = none) (r : RepVs K H S xs vs) (h : ∀ x ∈ xs, kOk m x) : KVs m K (upd H a o) (vs.zip (xs.map toK)) :=
  kvs_of (RepVs.ext rs (Ext.newT (K := K) hn) _ _ r) h
theorem pv_sortedSet (hc : X.calm = true) (hu : X.A.units + 64 < cLine) (hm : X.mg "sorted" = none) (hm2 : X.mg "set" = none) (ha : PVs X S0 H0 [a] fs) (hg : Gl X "sorted" := by rfl) (hg2 : Gl X "set" := by rfl)
    (he : starEach [.Call (.Name "set" p2) [a] [] q] X.env = (false, eval (.Call (.Name "set" p2) [a] [] q) X.env) :: starEach [] X.env := by rfl) (hpl : (backTo pos (starEach [] X.env)).any (·.1) = false := by rfl)
    (he2 : starEach [a] X.env = (false, eval a X.env) :: starEach [] X.env := by rfl) (hpl2 : (backTo q (starEach [] X.env)).any (·.1) = false := by rfl) :
    PV X S0 H0 (.Call (.Name "sorted" p) [.Call (.Name "set" p2) [a] [] q] [] pos) (fN oSortedSet fs) := by
  refine ⟨fN_mono (fun x S Q Q' h q => ?_) ha, PE.imp (pe_callB (cr_sortedM hc hu) hg hm (by decide +kernel) (pa_cons (pe_callTy (cr_setM hc hu) hg2 hm2 (by decide +kernel) ha.pa (by decide) (by decide) he2 hpl2) pa_nil he) (by decide) (by decide) he hpl) fun σ H Q ⟨ρ, S, re, rs, ex, h⟩ => ?_⟩
  · unfold oSortedSet at q ⊢
    split at q
    · split at q
      · exact ⟨q.1, q.2.1, q.2.2.1, fun ys hy => h _ _ (q.2.2.2 ys hy)⟩
      · exact q
    · exact q
  · refine ⟨ρ, S, re, rs, ex, ha.mono _ _ _ _ (fun ps S1 h vs H1 rv rs1 ex1 => ?_) h⟩
    unfold oSortedSet at h
    split at h
    · obtain ⟨v1, rfl, r1⟩ := rv.one
      split at h
      · rename_i xs e0
        obtain ⟨⟨⟨m, hk⟩, D, hD, hd⟩, al, so, h⟩ := h
        obtain ⟨t, vs, e1, hq, r⟩ := sqP_rep rs1 r1 e0
        have zf := zip_fst r
        have hkk : ∀ x ∈ xs, isK x = true := fun x hx => (hk x hx).isK
        refine ⟨m, t, vs.zip (xs.map toK), D.map toK, by rw [e1], by rw [zf]; exact hq, kvs_of r hk, by rw [List.length_map]; exact lim_of hD, dset (K := X.K) hd, fun b L hn l1 l2 l3 => ?_⟩
        have kL : KVs m X.K (upd H1 b (SetMO m X.w b L)) L := fun z hz => kvs_upd rs1 hn r hk z (l1 z hz)
        have dl : ∀ z ∈ L, ∃ x ∈ xs, z.2.data = toD x := fun z hz => by
          obtain ⟨x, hx, e⟩ := List.mem_map.mp (List.of_mem_zip (l1 z hz)).2
          exact ⟨x, hx, by rw [← e, toK_data x (hkk x hx)]⟩
        refine ⟨m, b, L, rfl, upd_same, kL, ?_, ?_, fun L1 p pm np => ?_⟩
        · intro d hd d' hd'
          obtain ⟨z, hz, rfl⟩ := List.mem_map.mp hd
          obtain ⟨z', hz', rfl⟩ := List.mem_map.mp hd'
          obtain ⟨x, hx, e⟩ := dl z hz
          obtain ⟨x', hx', e'⟩ := dl z' hz'
          rw [e, e']
          exact al _ (List.mem_map.mpr ⟨x, hx, rfl⟩) _ (List.mem_map.mpr ⟨x', hx', rfl⟩)
        · have mm : ∀ d ∈ L.map fun z => z.2.data, d ∈ xs.map toD := fun d hd => by
            obtain ⟨z, hz, rfl⟩ := List.mem_map.mp hd
            obtain ⟨x, hx, e⟩ := dl z hz
            rw [e]
            exact List.mem_map.mpr ⟨x, hx, rfl⟩
          rcases so with s1 | s1
          · exact .inl fun d hd => s1 d (mm d hd)
          · exact .inr fun d hd => s1 d (mm d hd)
        · have ml : ∀ z ∈ L1, z ∈ L := fun z hz => pm.mem_iff.mp hz
          obtain ⟨ys, sy, ek, ry⟩ := set_row r hkk (L := L1) (fun z hz => l1 z (ml z hz)) ((pm.map (·.2)).nodup_iff.mpr l2) fun z hz => (pm.map (·.2)).mem_iff.mpr (l3 z hz)
          have ext1 : Ext S1 H1 S1 (upd H1 b (SetMO m X.w b L)) := Ext.newT (K := X.K) hn
          have rs2 : RepS X.K (upd H1 b (SetMO m X.w b L)) S1 := rs1.newT hn
          have ry2 := RepVs.ext rs1 ext1 _ _ ry
          have em : (L1.mergeSort (dataLe false fun z => z.2.data)).map (·.1) = (((L1.map (·.1)).zip (toDs ys)).mergeSort (dataLe false (·.2))).map (·.1) := by
            have e3 : (L1.map (·.1)).zip (toDs ys) = L1.map fun z => (z.1, z.2.data) := by
              have e4 : toDs ys = L1.map fun z => z.2.data := by
                rw [toDs_map]
                have e5 : (L1.map fun z => z.2.data) = (L1.map (·.2)).map NestedKey.data := by rw [List.map_map]; rfl
                rw [e5, ek, List.map_map]
                exact List.map_congr_left fun y hy => (toK_data y (hkk y ((sy.2 y).mp hy))).symm
              rw [e4, List.zip_map']
            rw [e3, ← List.map_mergeSort (r := dataLe false fun z : V × NestedKey => z.2.data) (f := fun z : V × NestedKey => (z.1, z.2.data)) (fun _ _ _ _ => rfl), List.map_map]
            rfl
          rw [em]
          obtain ⟨a1, a2, a3⟩ := newL_k rs2 np (sort_rep ry2)
          exact h ys sy (.ref p) _ a1 a2 (ex1.trans (ext1.trans a3))
      · exact h.elim
    · exact h.elim
end
end PL

namespace PL
open PySem PySem.Spec PyProof.Rows L2
theorem sortI_perm (js : List Int) : (sortI js).Perm js := List.mergeSort_perm _ _
theorem nodup_perm {α : Type} {a b : List α} (ha : a.Nodup) (hb : b.Nodup) (h : ∀ x, x ∈ a ↔ x ∈ b) : a.Perm b := (List.perm_ext_iff_of_nodup ha hb).mpr h
def strOf : Pv → Str
  | .str x => x
  | _ => ""
theorem word_asc {p : Pv} (h : wordP p = true) : asc (strOf p) = true := by
  cases p with
  | str w =>
    have h : wordS w = true := h
    unfold wordS at h
    simp only [Bool.and_eq_true, decide_eq_true_eq] at h
    refine List.all_eq_true.mpr fun c hc => ?_
    have := List.all_eq_true.mp h.2 c hc
    unfold smallC at this
    simp only [Bool.and_eq_true, decide_eq_true_eq] at this
    exact decide_eq_true (by omega)
  | _ => cases h
end PL

namespace PL
open PySem PySem.Spec PyProof.Rows L2
def lc2W (gd : Sto → Prop) (t : Tg) (tt : PFB) (fi1 : PFI) (t1 : Tg) (tt1 : PFB) (te : PF) (ρ : Env') (vs1 : List Nat) (D : Addr) (Q : List Pv → Sto → Prop) : List Pv → List Pv → Sto → Prop
  | [], acc, S => gd (put S D (.lst acc)) ∧ Q acc S
  | x :: xs, acc, S => gd (put S D (.lst acc)) ∧ match bindT (put S D (.lst acc)) t x ρ with
    | some ρ2 => tt ρ2 (put S D (.lst acc)) fun c S2 =>
        cnd c (fi1 ρ2 S2 fun its1 gd1 S3 => S3 D = some (.lst acc) ∧ lcW gd1 t1 tt1 te (wipeP ρ2 vs1) D (fun acc' S' => lc2W gd t tt fi1 t1 tt1 te ρ vs1 D Q xs acc' S') its1 acc (del S3 D))
          (S2 D = some (.lst acc) ∧ lc2W gd t tt fi1 t1 tt1 te ρ vs1 D Q xs acc (del S2 D))
    | none => False
def fLc2 (fi : PFI) (t : Tg) (tt : PFB) (fi1 : PFI) (t1 : Tg) (tt1 : PFB) (te : PF) (vs vs1 : List Nat) : PF := fun ρ S Q => fi ρ S fun its gd S1 => ∀ D, S1 D = none → lc2W gd t tt fi1 t1 tt1 te (wipeP ρ vs) vs1 D (fun acc S' => Q (.lst acc) S') its [] S1
theorem lc2W_mono {gd : Sto → Prop} {t : Tg} {tt : PFB} {fi1 : PFI} {t1 : Tg} {tt1 : PFB} {te : PF} {ρ : Env'} {vs1 : List Nat} {D : Addr} (h1 : ∀ ρ S Q Q', (∀ p S', Q p S' → Q' p S') → tt ρ S Q → tt ρ S Q') (hi : ∀ ρ S Q Q', (∀ p g S', Q p g S' → Q' p g S') → fi1 ρ S Q → fi1 ρ S Q') (h3 : ∀ ρ S Q Q', (∀ p S', Q p S' → Q' p S') → tt1 ρ S Q → tt1 ρ S Q') (h2 : ∀ ρ S Q Q', (∀ p S', Q p S' → Q' p S') → te ρ S Q → te ρ S Q')
    {Q Q' : List Pv → Sto → Prop} (i : ∀ p S', Q p S' → Q' p S') : ∀ (its acc : List Pv) (S : Sto), lc2W gd t tt fi1 t1 tt1 te ρ vs1 D Q its acc S → lc2W gd t tt fi1 t1 tt1 te ρ vs1 D Q' its acc S
  | [], acc, S, q => ⟨q.1, i _ _ q.2⟩
  | x :: xs, acc, S, q => by
    refine ⟨q.1, ?_⟩
    have q2 := q.2
    split at q2
    · refine h1 _ _ _ _ (fun c S2 q => ?_) q2
      cases c with
      | true => exact hi _ _ _ _ (fun its1 gd1 S3 q => ⟨q.1, lcW_mono h3 h2 (fun acc' S' q => lc2W_mono h1 hi h3 h2 i xs acc' S' q) its1 acc _ q.2⟩) q
      | false => exact ⟨q.1, lc2W_mono h1 hi h3 h2 i xs _ _ q.2⟩
    · exact q2.elim
section
variable {X : Cx} {S0 : Sto} {H0 : Hp} {a b : Expr} {fa fb : PF} {pos : Pos}
theorem lc_loop {t : Tg} {tt : PFB} {te : PF} {vs : List Nat} (hv : ∀ i ∈ slotsT t, i ∈ vs) (m1 : ∀ ρ S Q Q', (∀ p S', Q p S' → Q' p S') → tt ρ S Q → tt ρ S Q') (m2 : ∀ ρ S Q Q', (∀ p S', Q p S' → Q' p S') → te ρ S Q → te ρ S Q')
    {σ : L2.St} {ρ : Env'} {S1 : Sto} {H1 : Hp} {J : It} {its acc0 : List Pv} {gd : Sto → Prop} {D : Addr} {F : List Pv → Sto → Prop} {Nx : Hp → Prop} (w : Wk X.K S1 H1 J its gd) (re : RepE X.K H1 S1 σ ρ) (rs1 : RepS X.K H1 S1) (ex : Ext S0 H0 S1 H1) (hD : S1 D = some (.lst acc0)) (q : lcW gd t tt te (wipeP ρ vs) D F its acc0 (del S1 D))
    (fin : ∀ acc S' H', F acc S' → S' D = none → RepS X.K H' (put S' D (.lst acc)) → Ext S1 H1 (put S' D (.lst acc)) H' → Nx H') :
    ∃ W1 : Nat → Nat → Hp → Prop, (∃ m, W1 0 m H1) ∧ ∀ j k H, W1 j k H →
      (J.stop j H ∧ Nx H) ∨ (J.go j H ∧ ∃ Nx1 : Hp → Prop, (∀ H', Nx1 H' → ∃ k', k' < k ∧ W1 (j + 1) k' H') ∧ ∀ x H', J.yld j H x H' → tgR X.K t x (L2.wipe σ vs) H' fun σ3 H5 => L2.wipe σ3 vs = L2.wipe σ vs ∧ liftB X.K S0 H0 tt σ3 H5 fun b H6 =>
        if b = true then lift X.K S0 H0 te σ3 H6 fun y H7 => ∃ acc, H7 D = some (.lst acc) ∧ acc.length < sizeLine ∧ Nx1 (upd H7 D (.lst (acc ++ [y]))) else Nx1 H6) := by
  refine ⟨fun i m H2 => i + m = its.length ∧ ∃ acc S2, S2 D = none ∧ RepS X.K H2 (put S2 D (.lst acc)) ∧ Ext S1 H1 (put S2 D (.lst acc)) H2 ∧ lcW gd t tt te (wipeP ρ vs) D F (its.drop i) acc S2,
    ⟨its.length, by omega, acc0, del S1 D, by simp, by rw [put_del, put_self hD]; exact rs1, by rw [put_del, put_self hD]; exact Ext.refl _ _, by rw [List.drop_zero]; exact q⟩, fun i m H2 hW => ?_⟩
  obtain ⟨em, acc, S2, n2, rs2, ex2, q2⟩ := hW
  cases hd : its.drop i with
  | nil =>
    rw [hd] at q2
    have hil : its.length ≤ i := by
      have := congrArg List.length hd
      simp at this
      omega
    have e0 : i = its.length := by omega
    subst e0
    exact .inl ⟨w.stop _ H2 ex2 rs2 q2.1, fin acc S2 H2 q2.2 n2 rs2 ex2⟩
  | cons x xs =>
    rw [hd] at q2
    have hil : i < its.length := by
      have := congrArg List.length hd
      simp at this
      omega
    have hx : its[i]? = some x := by
      have := congrArg (fun l => l[0]?) hd
      simpa using this
    have hxs : its.drop (i + 1) = xs := by
      have := congrArg (List.drop 1) hd
      simpa [Nat.add_comm] using this
    obtain ⟨hgo, hy⟩ := w.go _ H2 i x ex2 rs2 q2.1 hx
    refine .inr ⟨hgo, fun H3 => ∃ acc S3, S3 D = none ∧ RepS X.K H3 (put S3 D (.lst acc)) ∧ Ext S1 H1 (put S3 D (.lst acc)) H3 ∧ lcW gd t tt te (wipeP ρ vs) D F xs acc S3, fun H3 ⟨acc', S3, a1, a2, a3, a4⟩ => ⟨m - 1, by omega, by omega, acc', S3, a1, a2, a3, by rw [hxs]; exact a4⟩, fun v H3 yl => ?_⟩
    obtain ⟨rv, rs3, ex3⟩ := hy v H3 yl
    have q3 := q2.2
    split at q3
    · rename_i ρ' eb
      have e13 := ex2.trans ex3
      have re3 : RepE X.K H3 (put S2 D (.lst acc)) (L2.wipe σ vs) (wipeP ρ vs) := (re.ext rs1 e13).wipe vs
      refine tg_run rs3 t x v (L2.wipe σ vs) (wipeP ρ vs) ρ' _ rv re3 eb fun σ4 re4 w4 => ⟨by rw [w4 vs hv]; exact wipe_wipe σ vs vs fun i h => h, ?_⟩
      have e03 := ex.trans e13
      refine ⟨ρ', _, re4, rs3, e03, m1 _ _ _ _ (fun c S5 q5 H5 rs5 ex5 => ?_) q3⟩
      have e15 := e13.trans ex5
      cases c with
      | true =>
        refine ⟨ρ', S5, re4.ext rs3 ex5, rs5, e03.trans ex5, m2 _ _ _ _ (fun y S6 q6 yv H6 ry rs6 ex6 => ?_) q5⟩
        obtain ⟨h1, h2, h3⟩ := q6
        obtain ⟨av, hav, ra⟩ := rs6 D _ h1
        refine ⟨av, hav, by rw [ra.len]; exact h2, acc ++ [y], del S6 D, by simp, ?_, ?_, h3⟩
        · rw [put_del]
          exact rs6.chg h1 (ra.app ⟨yv, [], rfl, ry, rfl⟩)
        · rw [put_del]
          exact (e15.trans ex6).trans (Ext.chg h1)
      | false =>
        obtain ⟨h1, h2⟩ := q5
        refine ⟨acc, del S5 D, by simp, ?_, ?_, h2⟩
        · rw [put_del, put_self h1]; exact rs5
        · rw [put_del, put_self h1]; exact e15
    · exact q3.elim
theorem lc2_sim {fi fi1 : PFI} {t t1 : Tg} {tt tt1 : PFB} {te : PF} {vs vs1 : List Nat} {tg iter : Expr} (hi : PIt X S0 H0 tg iter fi) (hv : ∀ i ∈ slotsT t, i ∈ vs) (hv1 : ∀ i ∈ slotsT t1, i ∈ vs1) (m1 : ∀ ρ S Q Q', (∀ p S', Q p S' → Q' p S') → tt ρ S Q → tt ρ S Q') (mi : ∀ ρ S Q Q', (∀ p g S', Q p g S' → Q' p g S') → fi1 ρ S Q → fi1 ρ S Q')
    (m3 : ∀ ρ S Q Q', (∀ p S', Q p S' → Q' p S') → tt1 ρ S Q → tt1 ρ S Q') (m2 : ∀ ρ S Q Q', (∀ p S', Q p S' → Q' p S') → te ρ S Q → te ρ S Q')
    {σ : L2.St} {H : Hp} {Q : VK} {ρ : Env'} {S : Sto} {F : Addr → List Pv → Sto → Prop} (re : RepE X.K H S σ ρ) (rs : RepS X.K H S) (ex : Ext S0 H0 S H) (q : fi ρ S fun its gd S1 => ∀ D, S1 D = none → lc2W gd t tt fi1 t1 tt1 te (wipeP ρ vs) vs1 D (F D) its [] S1)
    (fin : ∀ D acc S' H', F D acc S' → S' D = none → RepS X.K H' (put S' D (.lst acc)) → Ext S H (put S' D (.lst acc)) H' → Q (.ref D) H') :
    tLc2 (liftI X.K S0 H0 fi) (tgR X.K t) (liftB X.K S0 H0 tt) (liftI X.K S0 H0 fi1) (tgR X.K t1) (liftB X.K S0 H0 tt1) (lift X.K S0 H0 te) vs vs1 σ H Q := by
  refine ⟨ρ, S, re, rs, ex, hi.mono _ _ _ _ (fun its gd S1 q J H1 w rs1 ex1 => ?_) q⟩
  intro D hD
  have q := q D (rs1.fr hD)
  refine ⟨fun i m H2 => i + m = its.length ∧ ∃ acc S2, S2 D = none ∧ RepS X.K H2 (put S2 D (.lst acc)) ∧ Ext S1 H1 (put S2 D (.lst acc)) H2 ∧ lc2W gd t tt fi1 t1 tt1 te (wipeP ρ vs) vs1 D (F D) (its.drop i) acc S2,
    ⟨its.length, by omega, [], S1, rs1.fr hD, rs1.newL hD rfl, Ext.newS hD, by rw [List.drop_zero]; exact q⟩, fun i m H2 hW => ?_⟩
  obtain ⟨em, acc, S2, n2, rs2, ex2, q2⟩ := hW
  cases hd : its.drop i with
  | nil =>
    rw [hd] at q2
    have hil : its.length ≤ i := by
      have := congrArg List.length hd
      simp at this
      omega
    have e0 : i = its.length := by omega
    subst e0
    exact .inl ⟨w.stop _ H2 ex2 rs2 q2.1, fin D acc S2 H2 q2.2 n2 rs2 (ex1.trans ex2)⟩
  | cons x xs =>
    rw [hd] at q2
    have hil : i < its.length := by
      have := congrArg List.length hd
      simp at this
      omega
    have hx : its[i]? = some x := by
      have := congrArg (fun l => l[0]?) hd
      simpa using this
    have hxs : its.drop (i + 1) = xs := by
      have := congrArg (List.drop 1) hd
      simpa [Nat.add_comm] using this
    obtain ⟨hgo, hy⟩ := w.go _ H2 i x ex2 rs2 q2.1 hx
    refine .inr ⟨hgo, fun H3 => ∃ acc S3, S3 D = none ∧ RepS X.K H3 (put S3 D (.lst acc)) ∧ Ext S1 H1 (put S3 D (.lst acc)) H3 ∧ lc2W gd t tt fi1 t1 tt1 te (wipeP ρ vs) vs1 D (F D) xs acc S3, fun H3 ⟨acc', S3, a1, a2, a3, a4⟩ => ⟨m - 1, by omega, by omega, acc', S3, a1, a2, a3, by rw [hxs]; exact a4⟩, fun v H3 yl => ?_⟩
    obtain ⟨rv, rs3, ex3⟩ := hy v H3 yl
    have q3 := q2.2
    split at q3
    · rename_i ρ' eb
      have e13 := ex2.trans ex3
      have re3 : RepE X.K H3 (put S2 D (.lst acc)) (L2.wipe σ vs) (wipeP ρ vs) := (re.ext rs (ex1.trans e13)).wipe vs
      refine tg_run rs3 t x v (L2.wipe σ vs) (wipeP ρ vs) ρ' _ rv re3 eb fun σ4 re4 w4 => ⟨by rw [w4 vs hv]; exact wipe_wipe σ vs vs fun i h => h, ?_⟩
      have e03 := (ex.trans ex1).trans e13
      refine ⟨ρ', _, re4, rs3, e03, m1 _ _ _ _ (fun c S5 q5 H5 rs5 ex5 => ?_) q3⟩
      have e15 := e13.trans ex5
      cases c with
      | true =>
        refine ⟨ρ', S5, re4.ext rs3 ex5, rs5, e03.trans ex5, mi _ _ _ _ (fun its1 gd1 S6 q6 J1 H6 w1 rs6 ex6 => ?_) q5⟩
        obtain ⟨h1, h3⟩ := q6
        have e16 := e15.trans ex6
        exact lc_loop hv1 m3 m2 w1 ((re4.ext rs3 ex5).ext rs5 ex6) rs6 ((e03.trans ex5).trans ex6) h1 h3 fun acc' S' H' f n' rs' ex' => ⟨acc', S', n', rs', e16.trans ex', f⟩
      | false =>
        obtain ⟨h1, h2⟩ := q5
        refine ⟨acc, del S5 D, by simp, ?_, ?_, h2⟩
        · rw [put_del, put_self h1]; exact rs5
        · rw [put_del, put_self h1]; exact e15
    · exact q3.elim
variable {elt tg iter tg1 iter1 : Expr} {ifs ifs1 : List Expr} {scope : Scope} {fi fi1 : PFI} {t t1 : Tg} {tt tt1 : PFB} {te : PF}
theorem pv_lc2 (own : List (Str × Nat)) (vs1 : List Nat) (hc : X.calm = true) (hN : X.N.Nodup) (hi : PIt X S0 H0 tg iter fi) (ok : BlkOk X.N X.env.scope scope own) (hg : Blk X scope fun Y => PG Y tg (tgR X.K t)) (ht : Blk X scope fun Y => PBs Y S0 H0 ifs tt)
    (hi1 : Blk X scope fun Y => PIt Y S0 H0 tg1 iter1 fi1) (hg1 : Blk X scope fun Y => PG Y tg1 (tgR X.K t1)) (ht1 : Blk X scope fun Y => PBs Y S0 H0 ifs1 tt1) (he : Blk X scope fun Y => PV Y S0 H0 elt te)
    (hv : ∀ i ∈ slotsT t, i ∈ own.map (·.2) := by decide) (hv1 : ∀ i ∈ slotsT t1, i ∈ vs1 := by decide) (hvv : ∀ i ∈ vs1, i ∈ own.map (·.2) := by decide) (hs : ∀ x, foldedSetIterable iter X.env x = pure x := by intro _; rfl) (hs1 : ∀ env x, foldedSetIterable iter1 env x = pure x := by intro _ _; rfl) :
    PV X S0 H0 (.ListComp elt [⟨tg, iter, ifs, 0⟩, ⟨tg1, iter1, ifs1, 0⟩] scope pos) (fLc2 fi t tt fi1 t1 tt1 te (own.map (·.2)) vs1) := by
  have m1 := (ht X.s_0 X.H_0 0 [] []).mono
  have m3 := (ht1 X.s_0 X.H_0 0 [] []).mono
  have m2 := (he X.s_0 X.H_0 0 [] []).mono
  have mi := (hi1 X.s_0 X.H_0 0 [] []).mono
  refine ⟨fun ρ S Q Q' i q => hi.mono _ _ _ _ (fun its gd S1 q D hD => lc2W_mono m1 mi m3 m2 (fun _ _ q => i _ _ q) its [] S1 (q D hD)) q, PE.imp (pe_lc2 (te := lift X.K S0 H0 te) (tt := liftB X.K S0 H0 tt) (tt1 := liftB X.K S0 H0 tt1) (wi1 := liftI X.K S0 H0 fi1) hc hN hi.pi ok hvv hg (fun s H C cl fp => (ht s H C cl fp).pts) (fun s H C cl fp => (hi1 s H C cl fp).pi) hg1 (fun s H C cl fp => (ht1 s H C cl fp).pts) (fun s H C cl fp => (he s H C cl fp).pe) hs hs1) fun σ H Q ⟨ρ, S, re, rs, ex, q⟩ => ?_⟩
  exact lc2_sim hi hv hv1 m1 mi m3 m2 re rs ex q fun D acc S' H' g hn rs' e' => lc_fin (G := fun p S' => ∀ v H', RepV X.K H' S' p v → RepS X.K H' S' → Ext S H S' H' → Q v H') g hn rs' e' fun p S' h => h
end
end PL

namespace PL
open PySem PySem.Spec PyProof.Rows L2
section
variable {X : Cx} {S0 : Sto} {H0 : Hp} {a b e : Expr} {fa fb fe : PF} {pos p : Pos} {fs : PFs}
def kyP : Pv → Option Key
  | .int i => some (.inl i)
  | .str x => some (.inr x)
  | _ => none
theorem kyP_rep {K : PySem.W.Frag} {H : Hp} {S : Sto} {x : Pv} {k : Key} {v : V} (h : kyP x = some k) (r : RepV K H S x v) : v = kV k := by
  cases x with
  | int i => simp only [kyP, Option.some.injEq] at h; subst h; exact r
  | str i => simp only [kyP, Option.some.injEq] at h; subst h; exact r
  | _ => simp [kyP] at h
def dcP (S : Sto) : Pv → Option (List Pv × List Pv)
  | .dct ks xs => some (ks, xs)
  | .ref a => match S a with
    | some (.dct ks xs) => some (ks, xs)
    | _ => none
  | _ => none
theorem dcP_rep {K : PySem.W.Frag} {H : Hp} {S : Sto} (rs : RepS K H S) {x : Pv} {v : V} {ks xs : List Pv} (h : dcP S x = some (ks, xs)) (r : RepV K H S x v) : ∃ a kvs, v = .ref a ∧ Rd H a (.dK kvs) ∧ RepVs K H S ks (kvs.map fun kv => kV kv.1) ∧ RepVs K H S xs (kvs.map (·.2)) := by
  cases x with
  | dct k2 x2 =>
    simp only [dcP, Option.some.injEq, Prod.mk.injEq] at h
    obtain ⟨rfl, rfl⟩ := h
    obtain ⟨a, kvs, e1, h, hs, r1, r2⟩ := r
    exact ⟨a, kvs, e1, h, r1, r2⟩
  | ref a =>
    have e1 : v = .ref a := r
    simp only [dcP] at h
    split at h
    · rename_i k2 x2 e2
      simp only [Option.some.injEq, Prod.mk.injEq] at h
      obtain ⟨rfl, rfl⟩ := h
      obtain ⟨kvs, e3, r1, r2⟩ := rs a _ e2
      exact ⟨a, kvs, e1, .inl e3, r1, r2⟩
    · cases h
  | _ => simp [dcP] at h
def fDictT : PF := fun _ S Q => ∀ a, S a = none → Q (.ref a) (put S a (.dct [] []))
theorem pv_dictT : PV X S0 H0 (.Dict [] [] pos) fDictT := by
  refine ⟨fun _ _ _ _ h q a ha => h _ _ (q a ha), PE.imp pe_dnewK fun σ H Q ⟨ρ, S, re, rs, ex, q⟩ d nd => ?_⟩
  refine q d (rs.fr nd) _ _ rfl (fun x m hx => ?_) ⟨fun x o hx hs => by rw [upd_ne (ne_of_none hx nd)]; exact hx, fun x hx => ?_⟩
  · by_cases z : x = d
    · subst z
      rw [put_same] at hx; cases hx
      exact ⟨[], upd_same, rfl, rfl⟩
    · rw [put_ne z] at hx
      have q0 := rs x m hx
      have ee : Ext S H (put S d (.dct [] [])) (upd H d (.dK [])) := ⟨fun x o hx hs => by rw [upd_ne (ne_of_none hx nd)]; exact hx, fun x hx => by
        by_cases z : x = d
        · subst z; exact .inr nd
        · rw [put_ne z] at hx; exact .inl hx⟩
      cases m with
      | lst ys => obtain ⟨us, e1, r⟩ := q0; exact ⟨us, by rw [upd_ne z]; exact e1, RepVs.ext rs ee _ _ r⟩
      | dct ks ys => obtain ⟨us, e1, r, r'⟩ := q0; exact ⟨us, by rw [upd_ne z]; exact e1, RepVs.ext rs ee _ _ r, RepVs.ext rs ee _ _ r'⟩
      | tab n => exact tab_ext rs ee q0 (by rw [upd_ne z])
      | exc C => obtain ⟨oe, e1, r⟩ := q0; exact ⟨oe, by rw [upd_ne z]; exact e1, r⟩
      | lck o kvs => exact (upd_ne z).trans q0
      | ob F ks xs => obtain ⟨ws, us, e1, o1, r, r'⟩ := q0; exact ⟨ws, us, by rw [upd_ne z]; exact e1, o1, RepVs.ext rs ee _ _ r, RepVs.ext rs ee _ _ r'⟩
  · by_cases z : x = d
    · subst z; exact .inr nd
    · rw [put_ne z] at hx; exact .inl hx
theorem RepS.chgD {K : PySem.W.Frag} {H : Hp} {S : Sto} {D : Addr} {m : Mo} {ks xs : List Pv} {kvs : List (Key × V)} (rs : RepS K H S) (h : S D = some m) (r1 : RepVs K H S ks (kvs.map fun kv => kV kv.1)) (r2 : RepVs K H S xs (kvs.map (·.2))) : RepS K (upd H D (.dK kvs)) (put S D (.dct ks xs)) := fun a m' ha => by
  have e := Ext.chg (H := H) (m' := .dct ks xs) (o := .dK kvs) h
  by_cases z : a = D
  · subst z
    rw [put_same] at ha; cases ha
    exact ⟨kvs, upd_same, RepVs.ext rs e _ _ r1, RepVs.ext rs e _ _ r2⟩
  · rw [put_ne z] at ha
    have q := rs a m' ha
    cases m' with
    | lst ys => obtain ⟨us, e1, r⟩ := q; exact ⟨us, by rw [upd_ne z]; exact e1, RepVs.ext rs e _ _ r⟩
    | dct ks ys => obtain ⟨us, e1, r, r'⟩ := q; exact ⟨us, by rw [upd_ne z]; exact e1, RepVs.ext rs e _ _ r, RepVs.ext rs e _ _ r'⟩
    | tab n => exact tab_ext rs e q (by rw [upd_ne z])
    | exc C => obtain ⟨oe, e1, r⟩ := q; exact ⟨oe, by rw [upd_ne z]; exact e1, r⟩
    | lck o kvs => exact (upd_ne z).trans q
    | ob F ks xs => obtain ⟨ws, us, e1, o1, r, r'⟩ := q; exact ⟨ws, us, by rw [upd_ne z]; exact e1, o1, RepVs.ext rs e _ _ r, RepVs.ext rs e _ _ r'⟩
theorem kyP_inj {x y : Pv} {k : Key} (h : kyP x = some k) (h' : kyP y = some k) : x = y := by
  cases x <;> cases y <;> first
    | (simp [kyP] at h; done)
    | (simp [kyP] at h'; done)
    | (simp only [kyP, Option.some.injEq] at h h'
       rw [← h'] at h
       first
         | (injection h with h; rw [h]; done)
         | cases h)
theorem keys_rep {K : PySem.W.Frag} {H : Hp} {S : Sto} : ∀ {ks : List Pv} {kvs : List (Key × V)}, RepVs K H S ks (kvs.map fun kv => kV kv.1) → (∀ z ∈ ks, (kyP z).isSome = true) → ks.map kyP = kvs.map fun kv => some kv.1
  | [], [], _, _ => rfl
  | [], _ :: _, h, _ => by cases (show _ = [] from h)
  | _ :: _, [], ⟨_, _, e, _⟩, _ => by cases e
  | x :: ks, kv :: kvs, ⟨v, r, e, h1, h2⟩, hk => by
    rw [List.map_cons] at e
    injection e with e1 e2
    subst e1 e2
    obtain ⟨k, hx⟩ := Option.isSome_iff_exists.mp (hk x List.mem_cons_self)
    have := kV_inj (kyP_rep hx h1)
    rw [List.map_cons, List.map_cons, keys_rep h2 fun z hz => hk z (List.mem_cons_of_mem _ hz), hx, this]
end
end PL

namespace PL
open PySem PySem.Spec PyProof.Rows L2
theorem merge_nodup : ∀ (kvs acc : List (Key × V)), ((acc ++ kvs).map (·.1)).Nodup → mergeK acc kvs = acc ++ kvs
  | [], acc, _ => by rw [List.append_nil]; rfl
  | kv :: kvs, acc, h => by
    have vn : valV acc kv.1 = none := by
      cases q : valV acc kv.1 with
      | none => rfl
      | some v =>
        exfalso
        have h1 := valV_any kv.1 acc
        rw [q] at h1
        obtain ⟨z, hz, ez⟩ := List.any_eq_true.mp h1
        have ez : z.1 = kv.1 := of_decide_eq_true ez
        rw [List.map_append, List.nodup_append] at h
        exact h.2.2 z.1 (List.mem_map.mpr ⟨z, hz, rfl⟩) kv.1 (by rw [List.map_cons]; exact List.mem_cons_self) ez
    show mergeK (putK acc kv.1 kv.2) kvs = _
    rw [putK_new kv.2 vn]
    have e : acc ++ [(kv.1, kv.2)] = acc ++ [kv] := rfl
    rw [e, merge_nodup kvs (acc ++ [kv]) (by rw [List.append_assoc]; exact h), List.append_assoc]
    rfl
def tpP (t : Pv × Pv) : Pv := .tup [t.1, t.2]
theorem pairs_rep {K : PySem.W.Frag} {H : Hp} {S : Sto} : ∀ {ts : List (Pv × Pv)} {vs : List V}, RepVs K H S (ts.map tpP) vs → (∀ t ∈ ts, (kyP t.1).isSome = true) → ∃ (ps : List Addr) (kvs : List (Key × V)), vs = ps.map V.ref ∧ Paired (fun p kv => SqT K H p [kV kv.1, kv.2]) ps kvs ∧ RepVs K H S (ts.map (·.1)) (kvs.map fun kv => kV kv.1) ∧ RepVs K H S (ts.map (·.2)) (kvs.map (·.2))
  | [], vs, h, _ => ⟨[], [], h, .nil, rfl, rfl⟩
  | t :: ts, _, ⟨v, r, e, ⟨a, us, e2, hq, u1, r1, e3, h1, u2, r2, e4, h2, e5⟩, h'⟩, hk => by
    obtain ⟨ps, kvs, a1, a2, a3, a4⟩ := pairs_rep h' fun z hz => hk z (List.mem_cons_of_mem _ hz)
    obtain ⟨k, hx⟩ := Option.isSome_iff_exists.mp (hk t List.mem_cons_self)
    have ek := kyP_rep hx h1
    have e5 : r2 = [] := e5
    subst e5 e4 e3 e2 ek
    exact ⟨a :: ps, (k, u2) :: kvs, by rw [e, a1]; rfl, .cons hq a2, ⟨_, _, rfl, h1, a3⟩, ⟨_, _, rfl, h2, a4⟩⟩
def getK : List Pv → List Pv → Pv → Option Pv
  | k0 :: ks, x0 :: xs, k => if kyP k0 = kyP k then some x0 else getK ks xs k
  | _, _, _ => none
theorem get_rep {K : PySem.W.Frag} {H : Hp} {S : Sto} {k : Pv} {key : Key} (hk : kyP k = some key) : ∀ {ks xs : List Pv} {kvs : List (Key × V)}, RepVs K H S ks (kvs.map fun kv => kV kv.1) → RepVs K H S xs (kvs.map (·.2)) → (∀ z ∈ ks, (kyP z).isSome = true) →
    (valV kvs key = none ∧ getK ks xs k = none) ∨ ∃ v x, valV kvs key = some v ∧ getK ks xs k = some x ∧ RepV K H S x v
  | [], [], [], _, _, _ => .inl ⟨rfl, rfl⟩
  | [], _ :: _, [], _, ⟨_, _, e, _⟩, _ => by cases e
  | _ :: _, _, [], ⟨_, _, e, _⟩, _, _ => by cases e
  | [], _, _ :: _, e, _, _ => by cases (show _ = [] from e)
  | _ :: _, [], _ :: _, _, e, _ => by cases (show _ = [] from e)
  | k0 :: ks, x0 :: xs, kv :: kvs, ⟨v, r, e, h1, h2⟩, ⟨v', r', e', h1', h2'⟩, hh => by
    rw [List.map_cons] at e e'
    injection e with e1 e2
    injection e' with e1' e2'
    subst e1 e2 e1' e2'
    obtain ⟨c, hc⟩ := Option.isSome_iff_exists.mp (hh k0 List.mem_cons_self)
    have ec : kv.1 = c := kV_inj (kyP_rep hc h1)
    unfold getK
    by_cases z : c = key
    · rw [if_pos (by rw [hc, hk, z])]
      exact .inr ⟨kv.2, x0, valV_pos (ec.trans z), rfl, h1'⟩
    · rw [if_neg (by rw [hc, hk]; exact fun w => z (Option.some.inj w)), valV_neg (by rw [ec]; exact z)]
      exact get_rep hk h2 h2' fun y hy => hh y (List.mem_cons_of_mem _ hy)
section
variable {X : Cx} {S0 : Sto} {H0 : Hp} {a b e : Expr} {fa fb fe : PF} {pos p : Pos} {fs : PFs}
def oIntS : On := fun ps S Q => match ps with
  | [.str a] => ∃ n, PySem.intText? a = some n ∧ a.length ≤ 640 ∧ Q (.int n) S
  | _ => False
theorem pv_intS (hm : X.mg "int" = none) (ha : PVs X S0 H0 [a] fs) (hg : Gl X "int" := by rfl) (he : starEach (a :: []) X.env = (false, eval a X.env) :: starEach [] X.env := by rfl) (hpl : (backTo pos (starEach [] X.env)).any (·.1) = false := by rfl) : PV X S0 H0 (.Call (.Name "int" p) [a] [] pos) (fN oIntS fs) := by
  refine pv_callTy call_int_str ⟨fun x S Q Q' h q => ?_, fun x S Qp v H Q rx rs h k => ?_⟩ hg hm (by decide +kernel) ha (by decide) (by decide) he hpl
  · unfold oIntS at q ⊢
    split at q
    · obtain ⟨n, h1, h2, h3⟩ := q
      exact ⟨n, h1, h2, h _ _ h3⟩
    · exact q.elim
  · unfold oIntS at h
    split at h
    · rename_i z
      obtain ⟨n, h1, h2, h3⟩ := h
      obtain ⟨v1, rfl, r1⟩ := rx.one
      exact ⟨z, n, by rw [show v1 = _ from r1], h1, h2, k _ S _ H h3 rfl rs (Ext.refl S H)⟩
    · exact h.elim
end
end PL

namespace PL
open PySem PySem.Spec PyProof.Rows L2
theorem lc2_pure {α β : Type} {gd : Sto → Prop} {t t1 : Tg} {fi1 : PFI} {te : PF} {ρ : Env'} {vs1 : List Nat} {D : Addr} {Q : List Pv → Sto → Prop} {S : Sto} (ys : List β) (g : α → Pv) (g1 : β → Pv) (f : α → β → Pv) (hD : S D = none) (hg : ∀ S', gd S') : ∀ (xs : List α) (acc : List Pv), acc.length + xs.length * ys.length ≤ sizeLine →
    (∀ x ∈ xs, ∀ S', Has S S' → ∃ ρ2, bindT S' t (g x) ρ = some ρ2 ∧ (∀ k, k (ys.map g1) tru S' → fi1 ρ2 S' k) ∧ ∀ y ∈ ys, ∀ S'', Has S S'' → ∃ ρ3, bindT S'' t1 (g1 y) (wipeP ρ2 vs1) = some ρ3 ∧ ∀ k : QV, k (f x y) S'' → te ρ3 S'' k) →
    Q (acc ++ xs.flatMap fun x => ys.map (f x)) S → lc2W gd t fYes fi1 t1 fYes te ρ vs1 D Q (xs.map g) acc S
  | [], acc, _, _, q => ⟨hg _, by simpa using q⟩
  | x :: xs, acc, l, h, q => by
    refine ⟨hg _, ?_⟩
    obtain ⟨ρ2, e, h1, h2⟩ := h x List.mem_cons_self _ (Has.put (m := .lst acc) hD)
    rw [e]
    have l' : acc.length + (ys.length + xs.length * ys.length) ≤ sizeLine := by
      rw [List.length_cons, Nat.succ_mul] at l
      omega
    refine h1 _ ⟨put_same, ?_⟩
    rw [del_put hD]
    refine lcW_pure g1 (fun _ => true) (f x) hD (fun _ _ => trivial) ys acc (by omega) (fun y hy S' hs => ?_) ?_
    · obtain ⟨ρ3, e3, h3⟩ := h2 y hy S' hs
      exact ⟨ρ3, e3, fun kk z => z, fun _ k z => h3 k z⟩
    · rw [List.filter_eq_self.mpr (fun _ _ => rfl)]
      refine lc2_pure ys g g1 f hD hg xs _ (by rw [List.length_append, List.length_map]; omega) (fun z hz => h z (List.mem_cons_of_mem _ hz)) ?_
      rw [List.flatMap_cons, ← List.append_assoc] at q
      exact q
theorem lc2_map {α β : Type} {gd : Sto → Prop} {t t1 : Tg} {fi1 : PFI} {te : PF} {ρ : Env'} {vs1 : List Nat} {Q : List Pv → Sto → Prop} {S : Sto} {its : List Pv} (xs : List α) (ys : List β) (g : α → Pv) (g1 : β → Pv) (f : α → β → Pv) (e : its = xs.map g) (l : xs.length * ys.length ≤ sizeLine) (hg : ∀ S', gd S')
    (h : ∀ x ∈ xs, ∀ S', Has S S' → ∃ ρ2, bindT S' t (g x) ρ = some ρ2 ∧ (∀ k, k (ys.map g1) tru S' → fi1 ρ2 S' k) ∧ ∀ y ∈ ys, ∀ S'', Has S S'' → ∃ ρ3, bindT S'' t1 (g1 y) (wipeP ρ2 vs1) = some ρ3 ∧ ∀ k : QV, k (f x y) S'' → te ρ3 S'' k)
    (q : Q (xs.flatMap fun x => ys.map (f x)) S) : ∀ D, S D = none → lc2W gd t fYes fi1 t1 fYes te ρ vs1 D Q its [] S := fun D hD => by
  rw [e]
  exact lc2_pure ys g g1 f hD hg xs [] (by simpa using l) h (by simpa using q)
def hasT (p : Rat × Rat) (ds : List Nat) : Bool := decide (colN p.1 ds.length = (spN ds).1) && decide (colN p.2 ds.length = (spN ds).2)
def bkX (ds : List Nat) : Nat := (spN ds).1 * 2 ^ (4 - ds.length)
def bkY (ds : List Nat) : Nat := (spN ds).2 * 2 ^ (4 - ds.length)
def bkM (ds : List Nat) : Nat := 2 ^ (4 - ds.length)
def cellsL (ds : List Nat) : List Pv := (List.range (bkM ds)).flatMap fun i => (List.range (bkM ds)).map fun j => .tup [.int ((bkX ds : Int) + (i : Nat)), .int ((bkY ds : Int) + (j : Nat))]
theorem bk_snoc {ds : List Nat} {d : Nat} (h : ds.length < 4) : bkM (ds ++ [d]) = bkM ds / 2 ∧ bkX (ds ++ [d]) = bkX ds + d % 2 * (bkM ds / 2) ∧ bkY (ds ++ [d]) = bkY ds + d / 2 * (bkM ds / 2) := by
  unfold bkM bkX bkY
  rw [spN_snoc, List.length_append, List.length_singleton]
  have e : 4 - ds.length = (4 - (ds.length + 1)) + 1 := by omega
  rw [e, Nat.pow_succ]
  generalize 2 ^ (4 - (ds.length + 1)) = w
  have hw : w * 2 / 2 = w := Nat.mul_div_cancel _ (by decide)
  refine ⟨hw.symm, ?_, ?_⟩
  · show (2 * (spN ds).1 + d % 2) * w = _
    rw [hw, Nat.add_mul]
    grind
  · show (2 * (spN ds).2 + d / 2) * w = _
    rw [hw, Nat.add_mul]
    grind
theorem bkM_le (ds : List Nat) : bkM ds ≤ 16 := by
  unfold bkM
  exact Nat.le_trans (Nat.pow_le_pow_right (by decide) (Nat.sub_le _ _)) (by decide)
theorem in_blk {c x w : Nat} (hw : 0 < w) : (∃ i, i < w ∧ x * w + i = c) ↔ c / w = x := by
  constructor
  · rintro ⟨i, hi, rfl⟩
    rw [Nat.mul_comm, Nat.mul_add_div hw, Nat.div_eq_of_lt hi, Nat.add_zero]
  · rintro rfl
    exact ⟨c % w, Nat.mod_lt _ hw, Nat.div_add_mod' c w⟩
abbrev Mv := Int × List (List Nat) × Str
def mvP (m : Mv) : Pv := .tup [.int m.1, .tup (m.2.1.map fun ds => .str (cdS ds)), .str m.2.2]
def CdOk (cs : List (List Nat)) : Prop := ∀ ds ∈ cs, (∀ d ∈ ds, d < 4) ∧ ds.length ≤ 4
def regF (p : Rat × Rat) (day : Int) (r : Str) (m : Mv) : Str := if (decide (m.1 ≤ day) && m.2.1.any (hasT p)) = true then m.2.2 else r
def regOf (ms : List Mv) (p : Rat × Rat) (day : Int) : Str := ms.foldl (regF p day) "land"
abbrev Zo := Str × List (Int × Int)
def lastOf (rs : List (Int × Int)) (t : Int) : Int := (((rs.filter fun r => decide (r.1 ≤ t)).map (·.2)).getLast?).getD 0
def minOf (zs : List Zo) (r : Str) (t : Int) : Int := match zs.find? (fun z => decide (z.1 = r)) with
  | some z => lastOf z.2 t
  | none => 0
theorem fd (n : Int) : n.fdiv 1440 = n / 1440 ∧ n.fdiv 60 = n / 60 ∧ n.fmod 1440 = n % 1440 ∧ n.fmod 60 = n % 60 ∧ n.fmod 24 = n % 24 :=
  ⟨Int.fdiv_eq_ediv_of_nonneg _ (by decide), Int.fdiv_eq_ediv_of_nonneg _ (by decide), Int.fmod_eq_emod_of_nonneg _ (by decide), Int.fmod_eq_emod_of_nonneg _ (by decide), Int.fmod_eq_emod_of_nonneg _ (by decide)⟩
end PL

namespace PL
open PySem PySem.Spec PyProof.Rows L2 PLS
open PySem.W (dataLe dataLt alike AllAlike EachIs)
section
variable {X : Cx} {S0 : Sto} {H0 : Hp} {a : Expr} {fs : PFs} {pos p p2 q : Pos}
end
end PL

namespace PL
open PySem PySem.Spec PyProof.Rows L2
def putD (ks xs : List Pv) (k v : Pv) : List Pv × List Pv := if (ks.any fun z => decide (kyP z = kyP k)) = true then (ks, (ks.zip xs).map fun p => if kyP p.1 = kyP k then v else p.2) else (ks ++ [k], xs ++ [v])
def kysOk (ks : List Pv) : Prop := ∀ z ∈ ks, (kyP z).isSome = true
theorem zip_rep {K : PySem.W.Frag} {H : Hp} {S : Sto} {k v : Pv} {key : Key} {w : V} (hk : kyP k = some key) (rv : RepV K H S v w) : ∀ {ks xs : List Pv} {kvs : List (Key × V)}, RepVs K H S ks (kvs.map fun kv => kV kv.1) → RepVs K H S xs (kvs.map (·.2)) → kysOk ks →
    RepVs K H S ks ((kvs.map fun kv => if kv.1 = key then (kv.1, w) else kv).map fun kv => kV kv.1) ∧ RepVs K H S ((ks.zip xs).map fun p => if kyP p.1 = kyP k then v else p.2) ((kvs.map fun kv => if kv.1 = key then (kv.1, w) else kv).map (·.2)) ∧ (kvs.any fun kv => decide (kv.1 = key)) = ks.any fun z => decide (kyP z = kyP k)
  | [], [], [], _, _, _ => ⟨rfl, rfl, rfl⟩
  | [], _ :: _, [], _, ⟨_, _, e, _⟩, _ => by cases e
  | _ :: _, _, [], ⟨_, _, e, _⟩, _, _ => by cases e
  | [], _, _ :: _, e, _, _ => by cases (show _ = [] from e)
  | _ :: _, [], _ :: _, _, e, _ => by cases (show _ = [] from e)
  | k0 :: ks, x0 :: xs, kv :: kvs, ⟨u, r, e, h1, h2⟩, ⟨u', r', e', h1', h2'⟩, hh => by
    rw [List.map_cons] at e e'
    injection e with e1 e2
    injection e' with e1' e2'
    subst e1 e2 e1' e2'
    obtain ⟨c, hc⟩ := Option.isSome_iff_exists.mp (hh k0 List.mem_cons_self)
    have ec : kv.1 = c := kV_inj (kyP_rep hc h1)
    obtain ⟨i1, i2, i3⟩ := zip_rep hk rv h2 h2' fun y hy => hh y (List.mem_cons_of_mem _ hy)
    have ed : decide (kv.1 = key) = decide (kyP k0 = kyP k) := by
      rw [hc, hk, ec]
      exact decide_eq_decide.mpr ⟨fun z => by rw [z], fun z => Option.some.inj z⟩
    refine ⟨?_, ?_, ?_⟩
    · rw [List.map_cons, List.map_cons]
      refine ⟨kV kv.1, _, ?_, h1, i1⟩
      split <;> rfl
    · rw [List.map_cons, List.map_cons, List.zip_cons_cons, List.map_cons]
      by_cases z : kv.1 = key
      · rw [if_pos z, if_pos (by rw [hc, hk, ← ec, z])]
        exact ⟨w, _, rfl, rv, i2⟩
      · rw [if_neg z, if_neg (by rw [hc, hk, ← ec]; exact fun y => z (Option.some.inj y))]
        exact ⟨kv.2, _, rfl, h1', i2⟩
    · rw [List.any_cons, List.any_cons, ed, i3]
theorem put_rep {K : PySem.W.Frag} {H : Hp} {S : Sto} {k v : Pv} {key : Key} {w : V} {ks xs : List Pv} {kvs : List (Key × V)} (hk : kyP k = some key) (rv : RepV K H S v w) (r1 : RepVs K H S ks (kvs.map fun kv => kV kv.1)) (r2 : RepVs K H S xs (kvs.map (·.2))) (ok : kysOk ks) :
    RepVs K H S (putD ks xs k v).1 ((putK kvs key w).map fun kv => kV kv.1) ∧ RepVs K H S (putD ks xs k v).2 ((putK kvs key w).map (·.2)) ∧ kysOk (putD ks xs k v).1 := by
  obtain ⟨i1, i2, i3⟩ := zip_rep hk rv r1 r2 ok
  unfold putD putK
  rw [i3]
  split
  · exact ⟨i1, i2, ok⟩
  · have hkr : RepV K H S k (kV key) := by
      cases k with
      | int i => simp only [kyP, Option.some.injEq] at hk; subst hk; exact rfl
      | str i => simp only [kyP, Option.some.injEq] at hk; subst hk; exact rfl
      | _ => simp [kyP] at hk
    refine ⟨?_, ?_, fun z hz => ?_⟩
    · rw [List.map_append]
      exact r1.app ⟨kV key, [], rfl, hkr, rfl⟩
    · rw [List.map_append]
      exact r2.app ⟨w, [], rfl, rv, rfl⟩
    · rcases List.mem_append.mp hz with hz | hz
      · exact ok z hz
      · rw [List.mem_singleton.mp hz, hk]; rfl
def mgD : List Pv → List Pv → List Pv → List Pv → List Pv × List Pv
  | ks, xs, k :: ms, v :: ys => mgD (putD ks xs k v).1 (putD ks xs k v).2 ms ys
  | ks, xs, _, _ => (ks, xs)
theorem mg_rep {K : PySem.W.Frag} {H : Hp} {S : Sto} : ∀ {ms ys : List Pv} {more : List (Key × V)} {ks xs : List Pv} {kvs : List (Key × V)}, RepVs K H S ms (more.map fun kv => kV kv.1) → RepVs K H S ys (more.map (·.2)) → kysOk ms → RepVs K H S ks (kvs.map fun kv => kV kv.1) → RepVs K H S xs (kvs.map (·.2)) → kysOk ks →
    RepVs K H S (mgD ks xs ms ys).1 ((mergeK kvs more).map fun kv => kV kv.1) ∧ RepVs K H S (mgD ks xs ms ys).2 ((mergeK kvs more).map (·.2)) ∧ kysOk (mgD ks xs ms ys).1
  | [], [], [], _, _, _, _, _, _, r1, r2, ok => ⟨r1, r2, ok⟩
  | [], _ :: _, [], _, _, _, _, ⟨_, _, e, _⟩, _, _, _, _ => by cases e
  | _ :: _, _, [], _, _, _, ⟨_, _, e, _⟩, _, _, _, _, _ => by cases e
  | [], _, _ :: _, _, _, _, e, _, _, _, _, _ => by cases (show _ = [] from e)
  | _ :: _, [], _ :: _, _, _, _, _, e, _, _, _, _ => by cases (show _ = [] from e)
  | k :: ms, v :: ys, kv :: more, ks, xs, kvs, ⟨u, r, e, h1, h2⟩, ⟨u', r', e', h1', h2'⟩, hh, r1, r2, ok => by
    rw [List.map_cons] at e e'
    injection e with e1 e2
    injection e' with e1' e2'
    subst e1 e2 e1' e2'
    obtain ⟨c, hc⟩ := Option.isSome_iff_exists.mp (hh k List.mem_cons_self)
    have ec : kv.1 = c := kV_inj (kyP_rep hc h1)
    subst ec
    obtain ⟨p1, p2, p3⟩ := put_rep hc h1' r1 r2 ok
    show RepVs K H S (mgD (putD ks xs k v).1 (putD ks xs k v).2 ms ys).1 ((mergeK (putK kvs kv.1 kv.2) more).map fun kv => kV kv.1) ∧ _
    exact mg_rep h2 h2' (fun y hy => hh y (List.mem_cons_of_mem _ hy)) p1 p2 p3
section
variable {X : Cx} {S0 : Sto} {H0 : Hp} {a b e : Expr} {fa fb fe : PF} {pos p : Pos} {fs : PFs}
def rUpdD : V → List V → Hp → VK → Prop := fun x xs H Q => ∃ (d o : Addr) (kvs more : List (Key × V)), x = V.ref d ∧ xs = [V.ref o] ∧ d ≠ o ∧ H d = some (.dK kvs) ∧ Rd H o (.dK more) ∧ kvs.length + more.length ≤ sizeLine ∧ Q .non (upd H d (.dK (mergeK kvs more)))
theorem mt_updD : MtR X "dict.update" rUpdD := by
  intro pins s σ H x xs v us Q I rx rxs h
  obtain ⟨d, o, kvs, more, rfl, rfl, hdo, e1, e2, hl, q⟩ := h
  cases rx
  rw [Vals.ref1 rxs]
  obtain ⟨z1, hd1, vs1, r1, dd1⟩ := dk_of I.hok e1
  obtain ⟨z2, hd2, vs2, r2, dd2⟩ := dk_rd I.hok e2
  refine call_meetsIn PySem.F.slot_dict_update dd1.typeIs PySem.F.entry_dict_update (PySem.F.args_dict_update_2 _ _) (meets_dict_update (mixKind X.prog X.w) d o hdo hd2) ⟨vs1, vs2, dd1, dd2, by rw [← r1.length, ← r2.length]; exact hl, fun h' n1 n2 sb => ?_⟩
  have he : ∃ q, h'.get? d = some q := let ⟨q, _, _, hq, _⟩ := n1; ⟨q, hq⟩
  have hz : (mergeK kvs more).length ≤ sizeLine := Nat.le_trans (length_mergeK more kvs) hl
  exact ⟨.non, _, d_write (t' := s.toks) I (by rw [e1]; exact True.intro) sb he (dk_new hz hd1 (r2.merge r1) n1), rfl, q⟩
def ckD (S : Sto) (x : Pv) : Bool := match x with
  | .ref a => (match S a with | some (.dct _ _) => true | _ => false)
  | _ => false
theorem ckD_ty {K : PySem.W.Frag} {H : Hp} {S : Sto} (rs : RepS K H S) {x : Pv} {v : V} (r : RepV K H S x v) (h : ckD S x = true) : tyV K "dict" v H := by
  cases x with
  | ref a =>
    have e1 : v = .ref a := r
    subst e1
    simp only [ckD] at h
    split at h
    · rename_i ks xs e2
      obtain ⟨kvs, e3, _, _⟩ := rs a _ e2
      exact .inr (.inr (.inl ⟨rfl, .inl ⟨kvs, e3⟩⟩))
    · cases h
  | _ => cases h
def oUpdD (x : Pv) (ps : List Pv) (S : Sto) (Q : QV) : Prop := match x, ps with
  | .ref a, [.dct ms ys] => (match S a with
    | some (.dct ks xs) => kysOk ks ∧ kysOk ms ∧ ks.length + ms.length ≤ sizeLine ∧ Q .non (put S a (.dct (mgD ks xs ms ys).1 (mgD ks xs ms ys).2))
    | _ => False)
  | _, _ => False
theorem pv_updD {e : Expr} {fs : PFs} {apos cpos : Pos} (ha : PV X S0 H0 a fa) (hb : PVs X S0 H0 [e] fs) (hbase : attributeBase a "update" X.env (eval a X.env) = eval a X.env := by rfl)
    (hfew : ((backTo cpos (starEach [e] X.env)).all (fun x => !x.1) && (backToKw cpos (keywordEach [] X.env)).all (fun x => x.1.isSome) && decide ([e].length + ([] : List Keyword).length + (if ([] : List Keyword).isEmpty then 0 else 1) < 30)) = true := by rfl)
    (hline : (apos.endLine == cpos.line) = true := by rfl) (hs : starEach [e] X.env = (false, eval e X.env) :: starEach [] X.env := by rfl) (hplain : (backTo cpos (starEach [] X.env)).any (·.1) = false := by rfl) :
    PV X S0 H0 (.Call (.Attribute a "update" apos) [e] [] cpos) (fMeth ckD oUpdD fa fs) := by
  have m : ∀ x ps S Q Q', (∀ p S', Q p S' → Q' p S') → oUpdD x ps S Q → oUpdD x ps S Q' := fun x ps S Q Q' i q => by
    unfold oUpdD at q ⊢
    split at q
    · split at q
      · exact ⟨q.1, q.2.1, q.2.2.1, i _ _ q.2.2.2⟩
      · exact q
    · exact q
  refine ⟨fMeth_mono m ha hb, PE.imp (pe_bm PySem.F.plainAttrs_dict PySem.F.slot_dict_update PySem.F.type_dict_update mt_updD ha.pe hb.pa hbase hfew hline hs hplain) fun σ H Q h => lift_meth (fun S x v H rs r h => ckD_ty rs r h) (fun x ps S Qp v vs H Q rv rvs rs h k => ?_) ha hb h⟩
  unfold oUpdD at h
  split at h
  · rename_i a ms ys
    split at h
    · rename_i ks xs e1
      obtain ⟨h1, h2, h3, h⟩ := h
      obtain ⟨pv, rfl, rp⟩ := rvs.one
      obtain ⟨kvs, e2, r1, r2⟩ := rs a _ e1
      obtain ⟨o, more, e3, hr, ho, q1, q2⟩ := rp
      have l1 : kvs.length = ks.length := by have := r1.len; rwa [List.length_map] at this
      have l2 : more.length = ms.length := by have := q1.len; rwa [List.length_map] at this
      obtain ⟨m1, m2, m3⟩ := mg_rep q1 q2 h2 r1 r2 h1
      refine ⟨a, o, kvs, more, rv, by rw [e3], (fun z => by rw [← z, e1] at ho; cases ho), e2, hr, by omega, ?_⟩
      exact k _ _ _ _ h rfl (rs.chgD e1 m1 m2) (Ext.chg e1)
    · exact h.elim
  · exact h.elim
end
end PL

namespace PL
open PySem PySem.Spec PyProof.Rows L2
def flatV : List (V × V) → List V
  | [] => []
  | p :: ps => p.1 :: p.2 :: flatV ps
def flatP : List (Pv × Pv) → List Pv
  | [] => []
  | p :: ps => p.1 :: p.2 :: flatP ps
def liftD (K : PySem.W.Frag) (S0 : Sto) (H0 : Hp) (fs : PFs) (σ : L2.St) (H : Hp) (Q : List (V × V) → Hp → Prop) : Prop := ∃ ρ S, RepE K H S σ ρ ∧ RepS K H S ∧ Ext S0 H0 S H ∧ fs ρ S fun ps S' => ∀ vs H', RepVs K H' S' ps (flatV vs) → RepS K H' S' → Ext S H S' H' → Q vs H'
structure PDs (X : Cx) (S0 : Sto) (H0 : Hp) (pos : Pos) (keys : List (Option Expr)) (values : List Expr) (fs : PFs) : Prop where
  mono : ∀ ρ S Q Q', (∀ p S', Q p S' → Q' p S') → fs ρ S Q → fs ρ S Q'
  pps : ∃ trs, PPs X pos keys values trs ∧ ∀ σ H Q, liftD X.K S0 H0 fs σ H Q → tPairs trs σ H Q
section
variable {X : Cx} {S0 : Sto} {H0 : Hp} {k v : Expr} {fk fv : PF} {pos : Pos} {fs : PFs} {keys : List (Option Expr)} {values : List Expr}
theorem pds_nil : PDs X S0 H0 pos [] [] fNil := ⟨fun _ _ _ _ h q => h _ _ q, [], pps_nil, fun σ H Q ⟨ρ, S, re, rs, ex, q⟩ => q [] H rfl rs (Ext.refl S H)⟩
theorem pds_cons (hk : PV X S0 H0 k fk) (hv : PV X S0 H0 v fv) (hr : PDs X S0 H0 pos keys values fs) : PDs X S0 H0 pos (some k :: keys) (v :: values) (fCons fk (fCons fv fs)) := by
  obtain ⟨trs, pp, sim⟩ := hr.pps
  refine ⟨fun ρ S Q Q' h q => hk.mono _ _ _ _ (fun p S1 q => hv.mono _ _ _ _ (fun p' S2 q => hr.mono _ _ _ _ (fun ps S3 q => h _ _ q) q) q) q, _, pps_cons hk.pe hv.pe pp, fun σ H Q ⟨ρ, S, re, rs, ex, q⟩ => ?_⟩
  refine ⟨ρ, S, re, rs, ex, hk.mono _ _ _ _ (fun p S1 q x H1 rx rs1 ex1 => ?_) q⟩
  refine ⟨ρ, S1, re.ext rs ex1, rs1, ex.trans ex1, hv.mono _ _ _ _ (fun p' S2 q y H2 ry rs2 ex2 => ?_) q⟩
  have e2 := ex1.trans ex2
  refine sim σ H2 _ ⟨ρ, S2, re.ext rs e2, rs2, ex.trans e2, hr.mono _ _ _ _ (fun ps S3 q vs H3 rv rs3 ex3 => ?_) q⟩
  exact q ((x, y) :: vs) H3 ⟨x, y :: flatV vs, rfl, RepV.ext rs1 (ex2.trans ex3) p x rx, y, flatV vs, rfl, RepV.ext rs2 ex3 p' y ry, rv⟩ rs3 (e2.trans ex3)
def fDispT (fs : PFs) : PF := fun ρ S Q => ∀ D, S D = none → fs ρ (put S D (.dct [] [])) fun ps S2 => S2 D = some (.dct [] []) ∧ ∃ ts : List (Pv × Pv), ps = flatP ts ∧ kysOk (ts.map (·.1)) ∧ ts.length ≤ 15 ∧ Q (.ref D) (put S2 D (.dct (mgD [] [] (ts.map (·.1)) (ts.map (·.2))).1 (mgD [] [] (ts.map (·.1)) (ts.map (·.2))).2))
theorem flat_rep {K : PySem.W.Frag} {H : Hp} {S : Sto} : ∀ {ts : List (Pv × Pv)} {vs : List (V × V)}, RepVs K H S (flatP ts) (flatV vs) → kysOk (ts.map (·.1)) → ∃ kvs : List (Key × V), vs = kvs.map (fun kv => (kV kv.1, kv.2)) ∧ kvs.length = ts.length ∧ RepVs K H S (ts.map (·.1)) (kvs.map fun kv => kV kv.1) ∧ RepVs K H S (ts.map (·.2)) (kvs.map (·.2))
  | [], [], _, _ => ⟨[], rfl, rfl, rfl, rfl⟩
  | [], _ :: _, e, _ => by cases (show _ = [] from e)
  | _ :: _, [], ⟨_, _, e, _⟩, _ => by cases e
  | t :: ts, p :: vs, ⟨u, r, e, h1, u2, r2, e2, h2, h3⟩, hk => by
    injection e with e1 e3
    subst e1 e3
    injection e2 with e4 e5
    subst e4 e5
    obtain ⟨c, hc⟩ := Option.isSome_iff_exists.mp (hk t.1 List.mem_cons_self)
    have ec := kyP_rep hc h1
    obtain ⟨kvs, a1, a2, a3, a4⟩ := flat_rep h3 fun y hy => hk y (List.mem_cons_of_mem _ hy)
    refine ⟨(c, p.2) :: kvs, ?_, by rw [List.length_cons, List.length_cons, a2], ⟨kV c, _, rfl, by rw [← ec]; exact h1, a3⟩, ⟨p.2, _, rfl, h2, a4⟩⟩
    rw [List.map_cons, ← a1, ← ec]
theorem RepS.newD {K : PySem.W.Frag} {S : Sto} {H : Hp} {d : Addr} (rs : RepS K H S) (nd : H d = none) : RepS K (upd H d (.dK [])) (put S d (.dct [] [])) := fun x m hx => by
  have ee : Ext S H (put S d (.dct [] [])) (upd H d (.dK [])) := Ext.newS nd
  by_cases z : x = d
  · subst z
    rw [put_same] at hx; cases hx
    exact ⟨[], upd_same, rfl, rfl⟩
  · rw [put_ne z] at hx
    have q0 := rs x m hx
    cases m with
    | lst ys => obtain ⟨us, e1, r⟩ := q0; exact ⟨us, by rw [upd_ne z]; exact e1, RepVs.ext rs ee _ _ r⟩
    | dct ks ys => obtain ⟨us, e1, r, r'⟩ := q0; exact ⟨us, by rw [upd_ne z]; exact e1, RepVs.ext rs ee _ _ r, RepVs.ext rs ee _ _ r'⟩
    | tab n => exact tab_ext rs ee q0 (by rw [upd_ne z])
    | exc C => obtain ⟨oe, e1, r⟩ := q0; exact ⟨oe, by rw [upd_ne z]; exact e1, r⟩
    | lck o kvs => exact (upd_ne z).trans q0
    | ob F ks xs => obtain ⟨ws, us, e1, o1, r, r'⟩ := q0; exact ⟨ws, us, by rw [upd_ne z]; exact e1, o1, RepVs.ext rs ee _ _ r, RepVs.ext rs ee _ _ r'⟩
theorem pv_dispT (h : PDs X S0 H0 pos keys values fs) (hall : keys.all (·.isSome) = true := by rfl) (hl : keys.length = values.length := by rfl) (h0 : keys ≠ [] := by intro z; cases z) (h15 : keys.length ≤ 15 := by decide) : PV X S0 H0 (.Dict keys values pos) (fDispT fs) := by
  obtain ⟨trs, pp, sim⟩ := h.pps
  refine ⟨fun ρ S Q Q' i q D hD => h.mono _ _ _ _ (fun ps S2 ⟨q1, ts, q2, q3, q4, q5⟩ => ⟨q1, ts, q2, q3, q4, i _ _ q5⟩) (q D hD), PE.imp (pe_disp pp hall hl h0 h15) fun σ H Q ⟨ρ, S, re, rs, ex, q⟩ d nd => ?_⟩
  have ee : Ext S H (put S d (.dct [] [])) (upd H d (.dK [])) := Ext.newS nd
  have rs1 := rs.newD nd
  refine sim σ _ _ ⟨ρ, _, re.ext rs ee, rs1, ex.trans ee, h.mono _ _ _ _ (fun ps S2 ⟨q1, ts, q2, q3, q4, q5⟩ vs H2 rv rs2 ex2 => ?_) (q d (rs.fr nd))⟩
  subst q2
  obtain ⟨kvs, a1, a2, a3, a4⟩ := flat_rep rv q3
  obtain ⟨kv0, e0, z1, z2⟩ := rs2 d _ q1
  have e00 : kv0 = [] := by
    have := z1.len
    rw [List.length_map] at this
    exact List.length_eq_zero_iff.mp this
  subst e00
  obtain ⟨m1, m2, m3⟩ := mg_rep (ks := []) (xs := []) (kvs := []) a3 a4 q3 rfl rfl (fun z hz => (by cases hz))
  refine ⟨e0, kvs, a1, by omega, ?_⟩
  exact q5 (.ref d) _ rfl (rs2.chgD q1 m1 m2) ((ee.trans ex2).trans (Ext.chg q1))
end
section
variable {X : Cx} {S0 : Sto} {H0 : Hp} {pos : Pos}
variable {kx vx tg iter : Expr} {ifs : List Expr} {scope : Scope} {fi : PFI} {t : Tg} {tt : PFB} {tk tv : PF}
end
end PL

namespace PL
open PySem PySem.Spec PyProof.Rows L2
open PySem.W (dataLe dataLt alike AllAlike EachIs)
def putI (is : List Int) (i : Int) : List Int := if i ∈ is then is else is ++ [i]
theorem putD_int (is : List Int) (xs : List Pv) (i : Int) (v : Pv) : (putD (is.map .int) xs (.int i) v).1 = (putI is i).map .int := by
  unfold putD putI
  have e : ((is.map Pv.int).any fun z => decide (kyP z = kyP (.int i))) = decide (i ∈ is) := by
    rw [List.any_map, Bool.eq_iff_iff, List.any_eq_true, decide_eq_true_eq]
    constructor
    · rintro ⟨x, hx, h⟩
      have h : kyP (.int x) = kyP (.int i) := of_decide_eq_true h
      have : x = i := by simpa [kyP] using h
      rw [← this]; exact hx
    · intro h
      exact ⟨i, h, decide_eq_true rfl⟩
  rw [e]
  by_cases h : i ∈ is
  · rw [if_pos (decide_eq_true h), if_pos h]
  · rw [if_neg (by rw [decide_eq_false h]; decide), if_neg h, List.map_append]
    rfl
def mgI (is js : List Int) : List Int := js.foldl putI is
theorem mgI_mem : ∀ (js is : List Int) (x : Int), x ∈ mgI is js ↔ x ∈ is ∨ x ∈ js
  | [], is, x => by simp [mgI]
  | j :: js, is, x => by
    show x ∈ mgI (putI is j) js ↔ _
    rw [mgI_mem js, List.mem_cons]
    unfold putI
    split
    · rename_i h
      constructor
      · rintro (z | z)
        · exact .inl z
        · exact .inr (.inr z)
      · rintro (z | z | z)
        · exact .inl z
        · rw [z]; exact .inl h
        · exact .inr z
    · rw [List.mem_append, List.mem_singleton]
      constructor
      · rintro ((z | z) | z)
        · exact .inl z
        · exact .inr (.inl z)
        · exact .inr (.inr z)
      · rintro (z | z | z)
        · exact .inl (.inl z)
        · exact .inl (.inr z)
        · exact .inr z
theorem mgI_len : ∀ (js is : List Int), (mgI is js).length ≤ is.length + js.length
  | [], is => Nat.le_refl _
  | j :: js, is => by
    have := mgI_len js (putI is j)
    have h2 : (putI is j).length ≤ is.length + 1 := by
      unfold putI
      split
      · omega
      · rw [List.length_append]; exact Nat.le_refl _
    show (mgI (putI is j) js).length ≤ is.length + (js.length + 1)
    omega
structure IsInst (ms : List Mv) (zs : List Zo) (p : Rat × Rat) (n : Int) (L : List Int) : Prop where
  pw : L.Pairwise (· < ·)
  mem : ∀ t, t ∈ L ↔ 0 ≤ t ∧ t + minOf zs (regOf ms p (t.fdiv 1440)) t = n
  len : L.length ≤ 60
theorem IsInst.uniq {ms ms' : List Mv} {zs zs' : List Zo} {p p' : Rat × Rat} {n n' : Int} {L L' : List Int} (h : IsInst ms zs p n L) (h' : IsInst ms' zs' p' n' L') (e : ∀ t, 0 ≤ t → (t + minOf zs (regOf ms p (t.fdiv 1440)) t = n ↔ t + minOf zs' (regOf ms' p' (t.fdiv 1440)) t = n')) : L = L' := by
  have n1 : L.Nodup := h.pw.imp fun {a b} z => by omega
  have n2 : L'.Nodup := h'.pw.imp fun {a b} z => by omega
  have pm : L.Perm L' := nodup_perm n1 n2 fun t => by
    rw [h.mem, h'.mem]
    constructor
    · rintro ⟨a, b⟩; exact ⟨a, (e t a).mp b⟩
    · rintro ⟨a, b⟩; exact ⟨a, (e t a).mpr b⟩
  exact pm.eq_of_pairwise (le := fun a b : Int => a ≤ b) (fun a b _ _ h1 h2 => by omega) (h.pw.imp fun {a b} z => by omega) (h'.pw.imp fun {a b} z => by omega)
theorem putD_len {is : List Int} {xs : List Pv} (h : xs.length = is.length) (i : Int) (v : Pv) : (putD (is.map .int) xs (.int i) v).2.length = (putI is i).length := by
  have e := congrArg List.length (putD_int is xs i v)
  rw [List.length_map] at e
  rw [← e]
  unfold putD
  split
  · show (List.map _ _).length = (is.map Pv.int).length
    rw [List.length_map, List.length_zip, List.length_map, h]
    omega
  · show (xs ++ [v]).length = (is.map Pv.int ++ [Pv.int i]).length
    rw [List.length_append, List.length_append, List.length_map, h]
    rfl
theorem mgD_ints : ∀ (js is : List Int) (xs ys : List Pv), xs.length = is.length → ys.length = js.length → ∃ zs, mgD (is.map .int) xs (js.map .int) ys = ((mgI is js).map .int, zs) ∧ zs.length = (mgI is js).length
  | [], is, xs, [], h, _ => ⟨xs, rfl, h⟩
  | [], _, _, _ :: _, _, h => by cases h
  | _ :: _, _, _, [], _, h => by cases h
  | j :: js, is, xs, y :: ys, h, h2 => by
    show ∃ zs, mgD (putD (is.map .int) xs (.int j) y).1 (putD (is.map .int) xs (.int j) y).2 (js.map .int) ys = _ ∧ _
    rw [putD_int]
    exact mgD_ints js (putI is j) _ ys (putD_len h j y) (by simpa using h2)
end PL

namespace PL
open PySem PySem.Spec PyProof.Rows L2
def fDisp (fs : PFs) : PF := fun ρ S Q => ∀ D, S D = none → fs ρ (put S D (.dct [] [])) fun ps S2 => S2 D = some (.dct [] []) ∧ ∃ ts : List (Pv × Pv), ps = flatP ts ∧ kysOk (ts.map (·.1)) ∧ ts.length ≤ 15 ∧ Q (.dct (mgD [] [] (ts.map (·.1)) (ts.map (·.2))).1 (mgD [] [] (ts.map (·.1)) (ts.map (·.2))).2) (del S2 D)
section
variable {X : Cx} {S0 : Sto} {H0 : Hp} {a b : Expr} {fa fb : PF} {pos : Pos} {fs : PFs} {keys : List (Option Expr)} {values : List Expr}
theorem pv_disp (h : PDs X S0 H0 pos keys values fs) (hall : keys.all (·.isSome) = true := by rfl) (hl : keys.length = values.length := by rfl) (h0 : keys ≠ [] := by intro z; cases z) (h15 : keys.length ≤ 15 := by decide) : PV X S0 H0 (.Dict keys values pos) (fDisp fs) := by
  obtain ⟨trs, pp, sim⟩ := h.pps
  refine ⟨fun ρ S Q Q' i q D hD => h.mono _ _ _ _ (fun ps S2 ⟨q1, ts, q2, q3, q4, q5⟩ => ⟨q1, ts, q2, q3, q4, i _ _ q5⟩) (q D hD), PE.imp (pe_disp pp hall hl h0 h15) fun σ H Q ⟨ρ, S, re, rs, ex, q⟩ d nd => ?_⟩
  have ee : Ext S H (put S d (.dct [] [])) (upd H d (.dK [])) := Ext.newS nd
  have rs1 := rs.newD nd
  refine sim σ _ _ ⟨ρ, _, re.ext rs ee, rs1, ex.trans ee, h.mono _ _ _ _ (fun ps S2 ⟨q1, ts, q2, q3, q4, q5⟩ vs H2 rv rs2 ex2 => ?_) (q d (rs.fr nd))⟩
  subst q2
  obtain ⟨kvs, a1, a2, a3, a4⟩ := flat_rep rv q3
  obtain ⟨kv0, e0, z1, z2⟩ := rs2 d _ q1
  have e00 : kv0 = [] := by
    have := z1.len
    rw [List.length_map] at this
    exact List.length_eq_zero_iff.mp this
  subst e00
  obtain ⟨m1, m2, m3⟩ := mg_rep (ks := []) (xs := []) (kvs := []) a3 a4 q3 rfl rfl (fun z hz => (by cases hz))
  refine ⟨e0, kvs, a1, by omega, ?_⟩
  have rs' := rs2.chgD q1 m1 m2
  have ex' := (ee.trans ex2).trans (Ext.chg (H := H2) (m' := .dct (mgD [] [] (ts.map (·.1)) (ts.map (·.2))).1 (mgD [] [] (ts.map (·.1)) (ts.map (·.2))).2) (o := .dK (mergeK [] kvs)) q1)
  have hn : del S2 d d = none := del_same
  rw [← put_del] at rs' ex'
  obtain ⟨kvs', e1, r1, r2⟩ := rs' d _ put_same
  have sb : Sub (del S2 d) (put (del S2 d) d (.dct (mgD [] [] (ts.map (·.1)) (ts.map (·.2))).1 (mgD [] [] (ts.map (·.1)) (ts.map (·.2))).2)) := Sub.put hn
  exact q5 (.ref d) _ ⟨d, kvs', rfl, .inl e1, hn, r1.sub sb, r2.sub sb⟩ (rs'.sub sb) (ex'.sub sb)
def oDGet : O2 := fun x k S Q => match dcP S x with
  | some (ks, xs) => (kyP k).isSome = true ∧ kysOk ks ∧ ∃ v, getK ks xs k = some v ∧ Q v S
  | none => False
theorem pv_dgetI {o i : Expr} {fo fi : PF} (hu : X.A.units + 64 < cLine) (ho : PV X S0 H0 o fo) (hi : PV X S0 H0 i fi) (hs : NoSl i := by intro _ _; rfl) : PV X S0 H0 (.Subscript o i pos) (f2 oDGet fo fi) := by
  refine ⟨fun ρ S Q Q' h q => ho.mono _ _ _ _ (fun x S1 q => hi.mono _ _ _ _ (fun k S2 q => ?_) q) q, PE.imp (pe_dget (by omega) ho.pe hi.pe hs) fun σ H Q ⟨ρ, S, re, rs, ex, q⟩ => ?_⟩
  · unfold oDGet at q ⊢
    split at q
    · obtain ⟨q1, q2, v, q3, q4⟩ := q
      exact ⟨q1, q2, v, q3, h _ _ q4⟩
    · exact q
  refine ⟨ρ, S, re, rs, ex, ho.mono _ _ _ _ (fun x S1 q v H1 rx rs1 ex1 => ?_) q⟩
  refine ⟨ρ, S1, re.ext rs ex1, rs1, ex.trans ex1, hi.mono _ _ _ _ (fun k S2 q kv H2 rk rs2 ex2 => ?_) q⟩
  unfold oDGet at q
  split at q
  · rename_i ks xs e1
    obtain ⟨q1, q2, w, q3, q4⟩ := q
    obtain ⟨key, hk⟩ := Option.isSome_iff_exists.mp q1
    obtain ⟨a1, kvs, ea, hr, r1, r2⟩ := dcP_rep rs2 e1 (RepV.ext rs1 ex2 x v rx)
    rcases get_rep hk r1 r2 q2 with ⟨g1, g2⟩ | ⟨u, y, g1, g2, g3⟩
    · rw [g2] at q3; cases q3
    · rw [g2] at q3
      cases q3
      exact ⟨a1, u, ea, .inl ⟨kvs, key, hr, kyP_rep hk rk, g1.symm⟩, q4 u H2 g3 rs2 (ex1.trans ex2)⟩
  · exact q.elim
end
end PL

namespace PL
open PySem PySem.Spec PyProof.Rows L2
section
variable {X : Cx} {S0 : Sto} {H0 : Hp} {a b e : Expr} {fa fb fe : PF} {pos p : Pos} {fs : PFs}
def oListD : On := fun ps S Q => match ps with
  | [x] => (match dcP S x with | some (ks, _) => Q (.lst ks) S | none => False)
  | _ => False
theorem pv_listD (hc : X.calm = true) (hm : X.mg "list" = none) (ha : PVs X S0 H0 [a] fs) (hg : Gl X "list" := by rfl) (he : starEach (a :: []) X.env = (false, eval a X.env) :: starEach [] X.env := by rfl) (hpl : (backTo pos (starEach [] X.env)).any (·.1) = false := by rfl) : PV X S0 H0 (.Call (.Name "list" p) [a] [] pos) (fN oListD fs) := by
  refine pv_callTy (call_listD hc) ⟨fun x S Q Q' h q => ?_, fun x S Qp v H Q rx rs h k => ?_⟩ hg hm (by decide +kernel) ha (by decide) (by decide) he hpl
  · unfold oListD at q ⊢
    split at q
    · split at q
      · exact h _ _ q
      · exact q
    · exact q
  · unfold oListD at h
    split at h
    · obtain ⟨v1, rfl, r1⟩ := rx.one
      split at h
      · rename_i ks xs e1
        obtain ⟨b, kvs, e2, hr, q1, q2⟩ := dcP_rep rs e1 r1
        refine ⟨b, kvs, by rw [e2], hr, fun p' np => ?_⟩
        obtain ⟨a1, a2, a3⟩ := newL_k rs np q1
        exact k _ S _ _ h a1 a2 a3
      · exact h.elim
    · exact h.elim
def gPutG (fv fd fk : PF) : PFS := fun D ρ S => fv ρ S fun v S1 => fd ρ S1 fun x S2 => fk ρ S2 fun k S3 => match x with
  | .ref a => (match S3 a with
    | some (.dct ks xs) => (kyP k).isSome = true ∧ kysOk ks ∧ ks.length < sizeLine ∧ D.nx ρ (put S3 a (.dct (putD ks xs k v).1 (putD ks xs k v).2))
    | _ => False)
  | _ => False
theorem pz_putG {o i value : Expr} {fv fd fk : PF} {pos' : Pos} (hu : X.A.units + 64 < cLine) (hv : PV X S0 H0 value fv) (ho : PV X S0 H0 o fd) (hi : PV X S0 H0 i fk) (hs : swapsWith value (some (.Subscript o i pos')) pos.line X.env = pure false := by rfl) : PZ X S0 H0 (.Assign [.Subscript o i pos'] value pos) (gPutG fv fd fk) := by
  refine ⟨fun D D' ρ S l q => hv.mono _ _ _ _ (fun v S1 q => ho.mono _ _ _ _ (fun x S2 q => hi.mono _ _ _ _ (fun k S3 q => ?_) q) q) q, PS.imp (ps_dput (by omega) ho.pe hi.pe hv.pe hs) fun D σ H ⟨ρ, S, re, rs, ex, q⟩ => ?_⟩
  · split at q
    · split at q
      · exact ⟨q.1, q.2.1, q.2.2.1, l.1 _ _ q.2.2.2⟩
      · exact q
    · exact q
  refine ⟨ρ, S, re, rs, ex, hv.mono _ _ _ _ (fun p S1 q v H1 rv rs1 ex1 => ?_) q⟩
  refine ⟨ρ, S1, re.ext rs ex1, rs1, ex.trans ex1, ho.mono _ _ _ _ (fun x S2 q xv H2 rx rs2 ex2 => ?_) q⟩
  have e2 := ex1.trans ex2
  refine ⟨ρ, S2, re.ext rs e2, rs2, ex.trans e2, hi.mono _ _ _ _ (fun y S3 q yv H3 ry rs3 ex3 => ?_) q⟩
  have e3 := e2.trans ex3
  cases x with
  | ref a =>
    have q : (match S3 a with | some (.dct ks xs) => (kyP y).isSome = true ∧ kysOk ks ∧ ks.length < sizeLine ∧ _ | _ => False) := q
    split at q
    · rename_i ks xs e
      obtain ⟨h1, h2, h4, q⟩ := q
      obtain ⟨k, hk⟩ := Option.isSome_iff_exists.mp h1
      obtain ⟨kvs, hq, r1, r2⟩ := rs3 _ _ e
      have ey := kyP_rep hk ry
      have rv3 := RepV.ext rs1 (ex2.trans ex3) p v rv
      have hl : kvs.length = ks.length := by have := r1.len; rwa [List.length_map] at this
      obtain ⟨p1, p2, p3⟩ := put_rep hk rv3 r1 r2 h2
      have hx : xv = .ref a := rx
      refine ⟨a, _, hx, .inl ⟨kvs, k, hq, ey, by rw [hl]; exact h4, rfl⟩, ?_⟩
      have rsn := rs3.chgD e p1 p2
      have en := e3.trans (Ext.chg (H := H3) (m' := .dct (putD ks xs y p).1 (putD ks xs y p).2) (o := .dK (putK kvs k v)) e)
      exact q σ _ (re.ext rs en) rsn en
    · exact q.elim
  | _ => exact q.elim
end
end PL

namespace PL
open PySem PySem.Spec PyProof.Rows L2
theorem code_cd {n : Nat} {x : Str} (h : codeN n x = true) : ∃ ds : List Nat, x = cdS ds ∧ (∀ d ∈ ds, d < 4) ∧ ds.length ≤ n := by
  unfold codeN codeS at h
  simp only [Bool.and_eq_true, decide_eq_true_eq] at h
  obtain ⟨⟨_, h2⟩, h3⟩ := h
  have h2 := List.all_eq_true.mp h2
  have hc : ∀ c ∈ x.cps.toList, 48 ≤ c ∧ c ≤ 51 := fun c hc => by
    have := h2 c hc
    unfold figC at this
    simp only [Bool.and_eq_true, decide_eq_true_eq] at this
    exact this
  refine ⟨x.cps.toList.map (· - 48), ?_, ?_, ?_⟩
  · unfold cdS
    rw [List.map_map]
    have : x.cps.toList.map ((· + 48) ∘ (· - 48)) = x.cps.toList := by
      conv => rhs; rw [← List.map_id x.cps.toList]
      refine List.map_congr_left fun c h => ?_
      have := hc c h
      show c - 48 + 48 = c
      omega
    rw [this]
  · intro d hd
    obtain ⟨c, h, rfl⟩ := List.mem_map.mp hd
    have := hc c h
    omega
  · rw [List.length_map]
    exact h3
theorem codes_cd {n : Nat} : ∀ {ss : List Str}, (∀ s ∈ ss, codeN n s = true) → ∃ cs : List (List Nat), ss = cs.map cdS ∧ ∀ ds ∈ cs, (∀ d ∈ ds, d < 4) ∧ ds.length ≤ n
  | [], _ => ⟨[], rfl, by simp⟩
  | s :: ss, h => by
    obtain ⟨ds, rfl, h1⟩ := code_cd (h s List.mem_cons_self)
    obtain ⟨cs, rfl, h2⟩ := codes_cd fun t ht => h t (List.mem_cons_of_mem _ ht)
    refine ⟨ds :: cs, rfl, fun e he => ?_⟩
    rcases List.mem_cons.mp he with rfl | he
    · exact h1
    · exact h2 e he
structure MvT (m : Mv) : Prop where
  day : 0 ≤ m.1
  cd : CdOk m.2.1
  ne : m.2.1 ≠ []
  len : m.2.1.length ≤ 100
  word : wordS m.2.2 = true
theorem mv_of {p : Pv} (h : mvQ p = true) (hs : shP p = true) : ∃ m : Mv, p = mvP m ∧ MvT m := by
  cases p with
  | tup ys =>
    match ys, h with
    | [d, c, r], h =>
      have h : (dayP d && ((codesP 4 c && neT c) && wordP r)) = true := h
      simp only [Bool.and_eq_true] at h
      obtain ⟨h1, ⟨h2, h3⟩, h4⟩ := h
      obtain ⟨_, hsh⟩ := shP_tup hs
      obtain ⟨ss, rfl, hc⟩ := codes_strs h2
      have hl : ss.length ≤ 100 := by
        have := (shP_tup (hsh (.tup (ss.map .str)) (by simp))).1
        rwa [List.length_map] at this
      have hc' : ∀ s ∈ ss, codeN 4 s = true := by
        unfold codesS at hc
        exact List.all_eq_true.mp (Bool.and_eq_true_iff.mp hc).1
      obtain ⟨cs, rfl, hcs⟩ := codes_cd hc'
      cases d with
      | int i =>
        cases r with
        | str w =>
          refine ⟨(i, cs, w), ?_, ?_, hcs, ?_, ?_, h4⟩
          · show Pv.tup [.int i, .tup ((cs.map cdS).map .str), .str w] = .tup [.int i, .tup (cs.map fun ds => .str (cdS ds)), .str w]
            rw [List.map_map]
            rfl
          · exact of_decide_eq_true h1
          · rintro rfl
            cases h3
          · rwa [List.length_map] at hl
        | _ => cases h4
      | _ => cases h1
    | [], h => cases h
    | [_], h => cases h
    | [_, _], h => cases h
    | _ :: _ :: _ :: _ :: _, h => cases h
  | _ => cases h
theorem mvs_of : ∀ {ps : List Pv}, (∀ p ∈ ps, mvQ p = true ∧ shP p = true) → ∃ ms : List Mv, ps = ms.map mvP ∧ ∀ m ∈ ms, MvT m
  | [], _ => ⟨[], rfl, by simp⟩
  | p :: ps, h => by
    obtain ⟨m, rfl, h1⟩ := mv_of (h p List.mem_cons_self).1 (h p List.mem_cons_self).2
    obtain ⟨ms, rfl, h2⟩ := mvs_of fun t ht => h t (List.mem_cons_of_mem _ ht)
    refine ⟨m :: ms, rfl, fun e he => ?_⟩
    rcases List.mem_cons.mp he with rfl | he
    · exact h1
    · exact h2 e he
theorem movesT {p : Pv} (h : MovesOk p) : ∃ ms : List Mv, p = .tup (ms.map mvP) ∧ (∀ m ∈ ms, MvT m) ∧ ms.length ≤ 24 := by
  cases p with
  | tup ps =>
    have hq : (decide (ps.length ≤ 24) && (ps.all mvQ && nonfall (ps.map dayI))) = true := h.q
    simp only [Bool.and_eq_true, decide_eq_true_eq] at hq
    obtain ⟨h1, h2, _⟩ := hq
    obtain ⟨ms, rfl, h3⟩ := mvs_of fun p hp => ⟨List.all_eq_true.mp h2 p hp, (shP_tup h.sh).2 p hp⟩
    exact ⟨ms, rfl, h3, by rwa [List.length_map] at h1⟩
  | _ => cases h.q
theorem cdS_inj {a b : List Nat} (h : cdS a = cdS b) : a = b := by
  unfold cdS at h
  have h : a.map (· + 48) = b.map (· + 48) := by simpa using h
  refine List.map_inj_right (fun x y e => ?_) |>.mp h
  omega
theorem preS_cd (a b : List Nat) : preS (cdS a) (cdS b) = a.isPrefixOf b := by
  rw [Bool.eq_iff_iff, preS_iff, List.isPrefixOf_iff_prefix]
  show a.map (· + 48) <+: b.map (· + 48) ↔ _
  constructor
  · rintro ⟨t, e⟩
    have e2 := congrArg (List.map (· - 48)) e
    rw [List.map_append, List.map_map, List.map_map] at e2
    have hid : ∀ l : List Nat, l.map ((· - 48) ∘ (· + 48)) = l := fun l => by
      conv => rhs; rw [← List.map_id l]
      refine List.map_congr_left fun c _ => ?_
      show c + 48 - 48 = c
      omega
    rw [hid, hid] at e2
    exact ⟨_, e2⟩
  · rintro ⟨t, rfl⟩
    exact ⟨t.map (· + 48), by rw [List.map_append]⟩
theorem spN_inj : ∀ (n : Nat) (a b : List Nat), a.length = n → b.length = n → (∀ d ∈ a, d < 4) → (∀ d ∈ b, d < 4) → spN a = spN b → a = b := by
  intro n
  induction n with
  | zero =>
    intro a b h1 h2 _ _ _
    rw [List.length_eq_zero_iff.mp h1, List.length_eq_zero_iff.mp h2]
  | succ n ih =>
    intro a b h1 h2 ha hb e
    have na : a ≠ [] := by rintro rfl; simp at h1
    have nb : b ≠ [] := by rintro rfl; simp at h2
    obtain ⟨a', x, rfl⟩ : ∃ es d, a = es ++ [d] := ⟨a.dropLast, a.getLast na, (List.dropLast_concat_getLast na).symm⟩
    obtain ⟨b', y, rfl⟩ : ∃ es d, b = es ++ [d] := ⟨b.dropLast, b.getLast nb, (List.dropLast_concat_getLast nb).symm⟩
    rw [spN_snoc, spN_snoc] at e
    have hx := ha x (by simp)
    have hy := hb y (by simp)
    have e1 : 2 * (spN a').1 + x % 2 = 2 * (spN b').1 + y % 2 := congrArg Prod.fst e
    have e2 : 2 * (spN a').2 + x / 2 = 2 * (spN b').2 + y / 2 := congrArg Prod.snd e
    have e3 : spN a' = spN b' := Prod.ext (by omega) (by omega)
    have := ih a' b' (by simpa using h1) (by simpa using h2) (fun d h => ha d (by simp [h])) (fun d h => hb d (by simp [h])) e3
    rw [this, show x = y by omega]
def ownF (c : List Nat) (day : Int) (r : Str) (m : Mv) : Str := if (decide (m.1 ≤ day) && m.2.1.any fun ds => ds.isPrefixOf c) = true then m.2.2 else r
def ownOf (ms : List Mv) (c : List Nat) (day : Int) : Str := ms.foldl (ownF c day) "land"
theorem ownOf_snoc (ms : List Mv) (m : Mv) (c : List Nat) (day : Int) : ownOf (ms ++ [m]) c day = ownF c day (ownOf ms c day) m := by
  unfold ownOf
  rw [List.foldl_append]
  rfl
def allC : Nat → List (List Nat)
  | 0 => [[]]
  | n + 1 => (allC n).flatMap fun c => [0, 1, 2, 3].map fun d => c ++ [d]
theorem allC_len : ∀ n : Nat, (allC n).length = 4 ^ n
  | 0 => rfl
  | n + 1 => by
    have : ∀ l : List (List Nat), (l.flatMap fun c => [0, 1, 2, 3].map fun d => c ++ [d]).length = 4 * l.length := fun l => by
      induction l with
      | nil => rfl
      | cons a l ih => rw [List.flatMap_cons, List.length_append, ih, List.length_cons]; show 4 + _ = _; omega
    show ((allC n).flatMap _).length = _
    rw [this, allC_len n, Nat.pow_succ, Nat.mul_comm]
theorem allC_mem : ∀ (n : Nat) (c : List Nat), c ∈ allC n ↔ c.length = n ∧ ∀ d ∈ c, d < 4
  | 0, c => by
    show c ∈ [[]] ↔ _
    rw [List.mem_singleton]
    constructor
    · rintro rfl; exact ⟨rfl, by simp⟩
    · rintro ⟨h, _⟩; exact List.length_eq_zero_iff.mp h
  | n + 1, c => by
    show c ∈ (allC n).flatMap _ ↔ _
    rw [List.mem_flatMap]
    constructor
    · rintro ⟨c', h1, h2⟩
      obtain ⟨d, hd, rfl⟩ := List.mem_map.mp h2
      obtain ⟨h3, h4⟩ := (allC_mem n c').mp h1
      refine ⟨by rw [List.length_append, h3]; rfl, fun e he => ?_⟩
      rcases List.mem_append.mp he with he | he
      · exact h4 e he
      · rw [List.mem_singleton.mp he]
        simp at hd; omega
    · rintro ⟨h1, h2⟩
      have hne : c ≠ [] := by rintro rfl; simp at h1
      obtain ⟨es, d, rfl⟩ : ∃ es d, c = es ++ [d] := ⟨c.dropLast, c.getLast hne, (List.dropLast_concat_getLast hne).symm⟩
      refine ⟨es, (allC_mem n es).mpr ⟨by simpa using h1, fun x hx => h2 x (by simp [hx])⟩, List.mem_map.mpr ⟨d, ?_, rfl⟩⟩
      have := h2 d (by simp)
      simp; omega
theorem allC_nd : ∀ n : Nat, (allC n).Nodup
  | 0 => by decide
  | n + 1 => by
    have ih := allC_nd n
    show ((allC n).flatMap fun c => [0, 1, 2, 3].map fun d => c ++ [d]).Pairwise (· ≠ ·)
    rw [List.flatMap_def]
    refine List.pairwise_flatten.mpr ⟨?_, ?_⟩
    · intro l hl
      obtain ⟨c, _, rfl⟩ := List.mem_map.mp hl
      refine List.Pairwise.map _ (R := fun a b : Nat => a ≠ b) (fun a b h e => h ?_) (by decide)
      have := List.append_cancel_left e
      simpa using this
    · refine List.Pairwise.map _ (R := fun a b : List Nat => a ≠ b) (fun a b h x hx y hy e => h ?_) ih
      obtain ⟨d, _, rfl⟩ := List.mem_map.mp hx
      obtain ⟨d', _, rfl⟩ := List.mem_map.mp hy
      exact (List.append_inj' e rfl).1
def cdK (c : List Nat) : Pv := .str (cdS c)
theorem kyc_inj {a b : List Nat} : kyP (cdK a) = kyP (cdK b) ↔ a = b := by
  constructor
  · intro h
    have : cdS a = cdS b := by simpa [kyP, cdK] using h
    exact cdS_inj this
  · rintro rfl; rfl
theorem putD_new {cs : List (List Nat)} {xs : List Pv} {c : List Nat} {v : Pv} (h : c ∉ cs) : putD (cs.map cdK) xs (cdK c) v = ((cs ++ [c]).map cdK, xs ++ [v]) := by
  unfold putD
  rw [if_neg, List.map_append]
  · rfl
  · rw [List.any_eq_true]
    rintro ⟨z, hz, e⟩
    obtain ⟨c', hc, rfl⟩ := List.mem_map.mp hz
    exact h (by rw [← kyc_inj.mp (of_decide_eq_true e)]; exact hc)
theorem putD_last {cs : List (List Nat)} {xs : List Pv} {c : List Nat} {v w : Pv} (hl : xs.length = cs.length) (h : c ∉ cs) : putD ((cs ++ [c]).map cdK) (xs ++ [w]) (cdK c) v = ((cs ++ [c]).map cdK, xs ++ [v]) := by
  unfold putD
  rw [if_pos]
  · congr 1
    rw [List.map_append, List.zip_append (by rw [List.length_map, hl]), List.map_append]
    congr 1
    · have : ∀ (cs : List (List Nat)) (xs : List Pv), xs.length = cs.length → c ∉ cs → ((cs.map cdK).zip xs).map (fun p => if kyP p.1 = kyP (cdK c) then v else p.2) = xs := by
        intro cs
        induction cs with
        | nil => intro xs h _; rw [List.length_eq_zero_iff.mp h]; rfl
        | cons c' cs ih =>
          intro xs hl hn
          match xs, hl with
          | x :: xs, hl =>
            rw [List.map_cons, List.zip_cons_cons, List.map_cons, ih xs (by simpa using hl) (fun z => hn (List.mem_cons_of_mem _ z)), if_neg]
            intro e
            exact hn (by rw [← kyc_inj.mp e]; exact List.mem_cons_self)
      exact this cs xs hl h
    · show [if kyP (cdK c) = kyP (cdK c) then v else w] = [v]
      rw [if_pos rfl]
  · rw [List.any_eq_true]
    exact ⟨cdK c, by simp, decide_eq_true rfl⟩
end PL

namespace PL
open PySem PySem.Spec PyProof.Rows L2
section
variable {X : Cx} {S0 : Sto} {H0 : Hp} {a b e e2 : Expr} {fa fb fe : PF} {pos p apos cpos : Pos} {fs : PFs}
theorem RepVs.erase {K : PySem.W.Frag} {H : Hp} {S : Sto} : ∀ {ps : List Pv} {vs : List V} (i : Nat), RepVs K H S ps vs → RepVs K H S (ps.eraseIdx i) (vs.eraseIdx i)
  | [], vs, i, r => by
    have : vs = [] := r
    subst this
    exact rfl
  | p :: ps, vs, 0, ⟨v, us, e, r, rr⟩ => by subst e; exact rr
  | p :: ps, vs, i + 1, ⟨v, us, e, r, rr⟩ => by subst e; exact ⟨v, _, rfl, r, RepVs.erase i rr⟩
theorem RepVs.dropLast {K : PySem.W.Frag} {H : Hp} {S : Sto} {ps : List Pv} {vs : List V} (r : RepVs K H S ps vs) : RepVs K H S ps.dropLast vs.dropLast := by
  rw [List.dropLast_eq_take, List.dropLast_eq_take, r.len]
  exact r.take _
end
end PL

namespace PL
open PySem PySem.Spec PyProof.Rows L2
section
variable {X : Cx} {S0 : Sto} {H0 : Hp} {pos : Pos}
theorem sw_trueD {kx vx : Expr} {gs : List Comprehension} {scope : Scope} {pos py : Pos} {y : Str} {l : Nat} {env : Env} (hk : env.scope.kind = .function) (hy : env.scope.names.lookup y = some .local) (hl : (py.line == pos.line) = true)
    (ha : (scope.names.any fun (n, k) => n == y && (k == .local || k == .cell)) = false) : swapsWith (.DictComp kx vx gs scope pos) (some (.Name y py)) l env = pure true := by
  have ky : env.kindOf y = some .local := hy
  have hb : env.blockKind = .function := by unfold Env.blockKind; rw [hk]; rfl
  unfold swapsWith
  simp only [hb, ky, ha, Expr.pos, hl]
  rfl
variable {kx vx tg iter : Expr} {ifs : List Expr} {scope : Scope} {fi : PFI} {t : Tg} {tt : PFB} {tk tv : PF}
end
end PL

namespace PL
open PySem PySem.Spec PyProof.Rows L2
open PySem.W (dataLe dataLt alike AllAlike EachIs)
def Fc (D : Int) (b : Nat) (q : Rat) : Prop := ∃ n : Int, q * (D : Rat) = (n : Rat) ∧ n.natAbs < 2 ^ b
theorem Fc.up {D : Int} {b c : Nat} {q : Rat} (h : Fc D b q) (l : b ≤ c) : Fc D c q := by
  obtain ⟨n, h1, h2⟩ := h
  exact ⟨n, h1, Nat.lt_of_lt_of_le h2 (Nat.pow_le_pow_right (by decide) l)⟩
theorem Fc.zero (D : Int) (b : Nat) : Fc D b 0 := ⟨0, by rw [Rat.zero_mul]; rfl, Nat.pow_pos (by decide)⟩
theorem Fc.mul {D E : Int} {b c : Nat} {p q : Rat} (h : Fc D b p) (h' : Fc E c q) : Fc (D * E) (b + c) (p * q) := by
  obtain ⟨n, h1, h2⟩ := h
  obtain ⟨m, h3, h4⟩ := h'
  refine ⟨n * m, ?_, ?_⟩
  · rw [Rat.intCast_mul, Rat.intCast_mul, ← h1, ← h3]
    grind
  · rw [Int.natAbs_mul, Nat.pow_add]
    exact Nat.mul_lt_mul'' h2 h4
theorem Fc.lift {D E : Int} {b c : Nat} {p : Rat} (h : Fc D b p) (h' : E.natAbs < 2 ^ c) : Fc (D * E) (b + c) p := by
  obtain ⟨n, h1, h2⟩ := h
  refine ⟨n * E, ?_, ?_⟩
  · rw [Rat.intCast_mul, Rat.intCast_mul, ← h1]
    grind
  · rw [Int.natAbs_mul, Nat.pow_add]
    exact Nat.mul_lt_mul'' h2 h'
theorem Fc.add {D : Int} {b : Nat} {p q : Rat} (h : Fc D b p) (h' : Fc D b q) : Fc D (b + 1) (p + q) := by
  obtain ⟨n, h1, h2⟩ := h
  obtain ⟨m, h3, h4⟩ := h'
  refine ⟨n + m, ?_, ?_⟩
  · rw [Rat.intCast_add, ← h1, ← h3]
    grind
  · rw [Nat.pow_succ]
    omega
theorem Fc.neg {D : Int} {b : Nat} {p : Rat} (h : Fc D b p) : Fc D b (0 - p) := by
  obtain ⟨n, h1, h2⟩ := h
  refine ⟨0 - n, ?_, by omega⟩
  rw [Rat.intCast_sub, ← h1]
  grind
theorem Fc.sz {D : Int} {b : Nat} {q : Rat} (h : Fc D b q) (h0 : D ≠ 0) (hD : D.natAbs < 2 ^ b) : Sz b q := by
  obtain ⟨n, h1, h2⟩ := h
  have hne : (D : Rat) ≠ 0 := fun z => h0 (Rat.intCast_eq_zero_iff.mp z)
  have e : q = Rat.divInt n D := by
    rw [Rat.divInt_eq_div, ← h1, Rat.div_def, Rat.mul_assoc, Rat.mul_inv_cancel _ hne, Rat.mul_one]
  rw [e]
  exact divInt_sz h0 h2 hD
theorem Fc.self (q : Rat) {b : Nat} (h : Sz b q) : Fc q.den b q := by
  refine ⟨q.num, ?_, h.1⟩
  have e := Rat.num_divInt_den q
  rw [Rat.divInt_eq_div] at e
  have hne : ((q.den : Int) : Rat) ≠ 0 := fun z => den_ne q (Rat.intCast_eq_zero_iff.mp z)
  have e2 : (q.num : Rat) / ((q.den : Int) : Rat) * ((q.den : Int) : Rat) = q * ((q.den : Int) : Rat) := congrArg (· * ((q.den : Int) : Rat)) e
  rw [← e2, Rat.div_def, Rat.mul_assoc, Rat.inv_mul_cancel _ hne, Rat.mul_one]
structure CsP (b : Nat) (p : Rat × Rat) : Prop where
  h : ∃ D : Int, D ≠ 0 ∧ D.natAbs < 2 ^ b ∧ Fc D b p.1 ∧ Fc D b p.2
structure CsM (b : Nat) (w : Mp) : Prop where
  h : ∃ D : Int, D ≠ 0 ∧ D.natAbs < 2 ^ b ∧ (Fc D b w.a ∧ Fc D b w.b ∧ Fc D b w.c ∧ Fc D b w.d) ∧ Fc D b w.e ∧ Fc D b w.f
theorem pw_up {D : Int} {b c : Nat} (h : D.natAbs < 2 ^ b) (l : b ≤ c) : D.natAbs < 2 ^ c := Nat.lt_of_lt_of_le h (Nat.pow_le_pow_right (by decide) l)
theorem CsP.up {b c : Nat} {p : Rat × Rat} (h : CsP b p) (l : b ≤ c) : CsP c p := by
  obtain ⟨D, h1, h2, h3, h4⟩ := h.h
  exact ⟨D, h1, pw_up h2 l, h3.up l, h4.up l⟩
theorem CsM.up {b c : Nat} {p : Mp} (h : CsM b p) (l : b ≤ c) : CsM c p := by
  obtain ⟨D, h1, h2, ⟨h3, h4, h5, h6⟩, h7, h8⟩ := h.h
  exact ⟨D, h1, pw_up h2 l, ⟨h3.up l, h4.up l, h5.up l, h6.up l⟩, h7.up l, h8.up l⟩
theorem CsP.sz {b : Nat} {p : Rat × Rat} (h : CsP b p) : SzP b p := by
  obtain ⟨D, h1, h2, h3, h4⟩ := h.h
  exact ⟨h3.sz h1 h2, h4.sz h1 h2⟩
theorem CsM.sz {b : Nat} {w : Mp} (h : CsM b w) : SzM b w := by
  obtain ⟨D, h1, h2, ⟨h3, h4, h5, h6⟩, h7, h8⟩ := h.h
  exact ⟨h3.sz h1 h2, h4.sz h1 h2, h5.sz h1 h2, h6.sz h1 h2, h7.sz h1 h2, h8.sz h1 h2⟩
theorem mul_lt2 {D E : Int} {b c : Nat} (h : D.natAbs < 2 ^ b) (h' : E.natAbs < 2 ^ c) : (D * E).natAbs < 2 ^ (b + c) := by
  rw [Int.natAbs_mul, Nat.pow_add]
  exact Nat.mul_lt_mul'' h h'
theorem CsP.of {b : Nat} {p : Rat × Rat} (h : SzP b p) : CsP (b + b) p := by
  have h1 : ((p.1.den : Nat) : Int).natAbs < 2 ^ b := h.1.2
  have h2 : ((p.2.den : Nat) : Int).natAbs < 2 ^ b := h.2.2
  refine ⟨(p.1.den : Int) * p.2.den, Int.mul_ne_zero (den_ne _) (den_ne _), mul_lt2 h1 h2, (Fc.self p.1 h.1).lift h2, ?_⟩
  rw [Int.mul_comm]
  exact (Fc.self p.2 h.2).lift h1
theorem Fc.led {D E : Int} {b c : Nat} {a x b' y e : Rat} (ha : Fc D b a) (hb : Fc D b b') (he : Fc D b e) (hx : Fc E c x) (hy : Fc E c y) (hE : E.natAbs < 2 ^ c) : Fc (D * E) (b + c + 2) (a * x + b' * y + e) :=
  ((ha.mul hx).add (hb.mul hy)).add ((he.lift hE).up (by omega))
theorem CsP.led {b c : Nat} {w : Mp} {p : Rat × Rat} (h : CsM b w) (h' : CsP c p) : CsP (b + c + 2) (ledR w p) := by
  obtain ⟨D, h1, h2, ⟨h3, h4, h5, h6⟩, h7, h8⟩ := h.h
  obtain ⟨E, g1, g2, g3, g4⟩ := h'.h
  exact ⟨D * E, Int.mul_ne_zero h1 g1, pw_up (mul_lt2 h2 g2) (by omega), Fc.led h3 h4 h7 g3 g4 g2, Fc.led h5 h6 h8 g3 g4 g2⟩
theorem CsM.join {b c : Nat} {w o : Mp} (h : CsM b w) (h' : CsM c o) : CsM (b + c + 2) (joinR w o) := by
  obtain ⟨D, h1, h2, ⟨h3, h4, h5, h6⟩, h7, h8⟩ := h.h
  obtain ⟨E, g1, g2, ⟨g3, g4, g5, g6⟩, g7, g8⟩ := h'.h
  refine ⟨E * D, Int.mul_ne_zero g1 h1, pw_up (mul_lt2 g2 h2) (by omega), ⟨?_, ?_, ?_, ?_⟩, ?_, ?_⟩
  · exact (Fc.led g3 g4 (Fc.zero _ _) h3 h5 h2).up (by omega)
  · exact (Fc.led g3 g4 (Fc.zero _ _) h4 h6 h2).up (by omega)
  · exact (Fc.led g5 g6 (Fc.zero _ _) h3 h5 h2).up (by omega)
  · exact (Fc.led g5 g6 (Fc.zero _ _) h4 h6 h2).up (by omega)
  · exact (Fc.led g3 g4 g7 h7 h8 h2).up (by omega)
  · exact (Fc.led g5 g6 g8 h7 h8 h2).up (by omega)
theorem div_own {q own : Rat} {D no : Int} (hn : own ≠ 0) (ho : own * ((D * D : Int) : Rat) = (no : Rat)) : q / own * (no : Rat) = q * (D : Rat) * (D : Rat) := by
  rw [← ho, Rat.intCast_mul, Rat.div_def]
  have := Rat.mul_inv_cancel own hn
  grind
theorem CsM.back {b : Nat} {w : Mp} (h : CsM b w) (hn : ownR w ≠ 0) : CsM (2 * b + 1) (backR w) := by
  obtain ⟨D, h1, h2, ⟨⟨na, a1, a2⟩, ⟨nb, b1, b2⟩, ⟨nc, c1, c2⟩, nd, d1, d2⟩, ⟨ne, e1, e2⟩, nf, f1, f2⟩ := h.h
  have hD : (D : Rat) ≠ 0 := fun z => h1 (Rat.intCast_eq_zero_iff.mp z)
  have ho : ownR w * ((D * D : Int) : Rat) = ((na * nd - nb * nc : Int) : Rat) := by
    unfold ownR
    rw [Rat.intCast_sub, Rat.intCast_mul, Rat.intCast_mul, Rat.intCast_mul, ← a1, ← b1, ← c1, ← d1]
    grind
  have hno : na * nd - nb * nc ≠ 0 := by
    intro z
    rw [z] at ho
    rcases Rat.mul_eq_zero.mp ho with z | z
    · exact hn z
    · rw [Rat.intCast_mul] at z
      rcases Rat.mul_eq_zero.mp z with z | z <;> exact hD z
  have pp : ∀ x y : Int, x.natAbs < 2 ^ b → y.natAbs < 2 ^ b → (x * y).natAbs < 2 ^ (2 * b) := fun x y hx hy => by
    have := mul_lt2 hx hy
    rwa [show b + b = 2 * b by omega] at this
  have pp2 : ∀ x y : Int, x.natAbs < 2 ^ (2 * b) → y.natAbs < 2 ^ (2 * b) → (x - y).natAbs < 2 ^ (2 * b + 1) := fun x y hx hy => by
    rw [Nat.pow_succ]
    omega
  have k := fun (q : Rat) => div_own (q := q) hn ho
  generalize hz : na * nd - nb * nc = no at *
  refine ⟨no, hno, by rw [← hz]; exact pp2 _ _ (pp _ _ a2 d2) (pp _ _ b2 c2), ⟨⟨nd * D, ?_, pw_up (pp _ _ d2 h2) (by omega)⟩, ⟨0 - nb * D, ?_, ?_⟩, ⟨0 - nc * D, ?_, ?_⟩, na * D, ?_, pw_up (pp _ _ a2 h2) (by omega)⟩, ⟨0 - (nd * ne - nb * nf), ?_, ?_⟩, 0 - (na * nf - nc * ne), ?_, ?_⟩
  · show w.d / ownR w * _ = _
    rw [k, Rat.intCast_mul, ← d1]
  · show (0 - w.b / ownR w) * _ = _
    have := k w.b
    rw [Rat.intCast_sub, Rat.intCast_mul, ← b1, ← this]
    grind
  · have := pp _ _ b2 h2
    have := pw_up this (show 2 * b ≤ 2 * b + 1 by omega)
    omega
  · show (0 - w.c / ownR w) * _ = _
    have := k w.c
    rw [Rat.intCast_sub, Rat.intCast_mul, ← c1, ← this]
    grind
  · have := pp _ _ c2 h2
    have := pw_up this (show 2 * b ≤ 2 * b + 1 by omega)
    omega
  · show w.a / ownR w * _ = _
    rw [k, Rat.intCast_mul, ← a1]
  · show (0 - (w.d / ownR w * w.e + (0 - w.b / ownR w) * w.f + 0)) * _ = _
    have k1 := k w.d
    have k2 := k w.b
    rw [Rat.intCast_sub, Rat.intCast_sub, Rat.intCast_mul, Rat.intCast_mul, ← d1, ← e1, ← b1, ← f1]
    grind
  · have := pp2 _ _ (pp _ _ d2 e2) (pp _ _ b2 f2)
    omega
  · show (0 - ((0 - w.c / ownR w) * w.e + w.a / ownR w * w.f + 0)) * _ = _
    have k1 := k w.a
    have k2 := k w.c
    rw [Rat.intCast_sub, Rat.intCast_sub, Rat.intCast_mul, Rat.intCast_mul, ← a1, ← e1, ← c1, ← f1]
    grind
  · have := pp2 _ _ (pp _ _ a2 f2) (pp _ _ c2 e2)
    omega
def WsOk (ws : List Mp) : Prop := ∀ w ∈ ws, ownR w ≠ 0 ∧ CsM 90 w
theorem WsOk.app {xs ys : List Mp} (h : WsOk (xs ++ ys)) : WsOk xs ∧ WsOk ys := ⟨fun w hw => h w (List.mem_append_left _ hw), fun w hw => h w (List.mem_append_right _ hw)⟩
abbrev Fr := Str × Str × Mp
abbrev gndS : Str := "ground"
inductive Path (fs : List Fr) : Str → List Mp → Prop
  | home : Path fs gndS []
  | step {f : Fr} {ws : List Mp} : f ∈ fs → Path fs f.2.1 ws → Path fs f.1 (f.2.2 :: ws)
theorem Path.more {fs gs : List Fr} (h : ∀ f ∈ fs, f ∈ gs) {n : Str} {ws : List Mp} (p : Path fs n ws) : Path gs n ws := by
  induction p with
  | home => exact .home
  | step hf _ ih => exact .step (h _ hf) ih
structure FsOk (fs : List Fr) : Prop where
  len : fs.length ≤ 6
  rise : (fs.map (·.1)).Pairwise fun a b => strLt a b = true
  word : ∀ f ∈ fs, wordS f.1 = true ∧ f.1 ≠ gndS
  way : ∀ f ∈ fs, ownR f.2.2 ≠ 0 ∧ CsM 90 f.2.2
  path : ∀ f ∈ fs, ∃ ws, Path fs f.1 ws ∧ ws.length ≤ fs.length
  other : ∀ f ∈ fs, f.2.1 = gndS ∨ f.2.1 ∈ fs.map (·.1)
def isNm (fs : List Fr) (n : Str) : Prop := n = gndS ∨ n ∈ fs.map (·.1)
theorem FsOk.nd {fs : List Fr} (h : FsOk fs) : (fs.map (·.1)).Nodup := h.rise.imp fun {a b} z e => by
  rw [e, strLt_irr] at z
  cases z
theorem Path.ok {fs : List Fr} (h : FsOk fs) {n : Str} {ws : List Mp} (p : Path fs n ws) : WsOk ws := by
  induction p with
  | home => intro w hw; cases hw
  | step hf _ ih =>
    intro w hw
    rcases List.mem_cons.mp hw with rfl | hw
    · exact h.way _ hf
    · exact ih w hw
theorem FsOk.has {fs : List Fr} (h : FsOk fs) {n : Str} (hn : isNm fs n) : ∃ ws, Path fs n ws ∧ ws.length ≤ fs.length := by
  rcases hn with rfl | hn
  · exact ⟨[], .home, Nat.zero_le _⟩
  · obtain ⟨f, hf, rfl⟩ := List.mem_map.mp hn
    exact h.path f hf
end PL

namespace PLS
open PySem PySem.Spec PyProof.Rows L2 PpSet
section
variable {X : Cx} {pins : List (Addr × Obj)} {σ : L2.St} {H : Hp} {s : Shared} {m : Bool}
end
section
variable {X : Cx}
end
end PLS

namespace PL
open PySem PySem.Spec PyProof.Rows L2 PLS
open PySem.W (dataLe dataLt alike AllAlike EachIs)
section
variable {K : PySem.W.Frag} {H : Hp} {S : Sto} {D : Addr} {P : Heap → Prop} {o : HO}
theorem Rd.xupd {a : Addr} {u : HO} (hD : H D = some (.ext P)) (hu : u ≠ .ext P) (h : Rd H a u) : Rd (upd H D o) a u := by
  rcases h with h | ⟨x, h⟩
  · exact .inl (by rw [upd_ne (by rintro rfl; rw [hD] at h; exact hu (Option.some.inj h).symm)]; exact h)
  · exact .inr ⟨x, by rw [upd_ne (by rintro rfl; rw [hD] at h; cases h)]; exact h⟩
theorem SqT.xupd {a : Addr} {xs : List V} (hD : H D = some (.ext P)) (h : SqT K H a xs) : SqT K (upd H D o) a xs := h.imp (fun h => Rd.xupd hD (by intro z; cases z) h) id
mutual
theorem RepV.xupd (hD : H D = some (.ext P)) : ∀ (p : Pv) (v : V), RepV K H S p v → RepV K (upd H D o) S p v
  | .non, _, h => h
  | .bl _, _, h => h
  | .int _, _, h => h
  | .str _, _, h => h
  | .tup ps, _, ⟨a, vs, e1, h, r⟩ => ⟨a, vs, e1, SqT.xupd hD h, RepVs.xupd hD ps vs r⟩
  | .lst ps, _, ⟨a, vs, e1, h, hs, r⟩ => ⟨a, vs, e1, by rw [upd_ne (by rintro rfl; rw [hD] at h; cases h)]; exact h, hs, RepVs.xupd hD ps vs r⟩
  | .dct ks ps, _, ⟨a, kvs, e1, h, hs, r1, r2⟩ => ⟨a, kvs, e1, Rd.xupd hD (by intro z; cases z) h, hs, RepVs.xupd hD ks _ r1, RepVs.xupd hD ps _ r2⟩
  | .ref _, _, h => h
  | .ty _, _, h => h
  | .scr ps, _, ⟨a, vs, e1, h, r⟩ => ⟨a, vs, e1, h.elim (fun ⟨x, z⟩ => .inl ⟨x, by rw [upd_ne (by rintro rfl; rw [hD] at z; cases z)]; exact z⟩) .inr, RepVs.xupd hD ps vs r⟩
  | .tpx ps, _, ⟨a, vs, o, e1, h, d, r⟩ => ⟨a, vs, o, e1, by rw [upd_ne (by rintro rfl; rw [hD] at h; cases h)]; exact h, d, RepVs.xupd hD ps vs r⟩
theorem RepVs.xupd (hD : H D = some (.ext P)) : ∀ (ps : List Pv) (vs : List V), RepVs K H S ps vs → RepVs K (upd H D o) S ps vs
  | [], _, h => h
  | p :: ps, _, ⟨v, r, e1, h1, h2⟩ => ⟨v, r, e1, RepV.xupd hD p v h1, RepVs.xupd hD ps r h2⟩
end
theorem RepS.xupd (hS : S D = none) (hD : H D = some (.ext P)) (hc : ∀ q, LamX.CodeO D q ≠ .ext P) (r : RepS K H S) : RepS K (upd H D o) S := fun a m e => by
  have q := r a m e
  cases m with
  | lst xs => obtain ⟨vs, e1, r1⟩ := q; exact ⟨vs, by rw [upd_ne (by rintro rfl; rw [hD] at e1; cases e1)]; exact e1, RepVs.xupd hD _ _ r1⟩
  | dct ks xs => obtain ⟨vs, e1, r1, r2⟩ := q; exact ⟨vs, by rw [upd_ne (by rintro rfl; rw [hD] at e1; cases e1)]; exact e1, RepVs.xupd hD _ _ r1, RepVs.xupd hD _ _ r2⟩
  | tab n =>
    obtain ⟨ps, h1, h2, h3⟩ := q
    refine ⟨ps, by rw [upd_ne (by rintro rfl; rw [hD] at h1; cases h1)]; exact h1, h2, fun pos cv h => ?_⟩
    obtain ⟨c, e1, e2⟩ := h3 pos cv h
    refine ⟨c, e1, ?_⟩
    rw [upd_ne (by rintro rfl; rw [hD] at e2; exact hc n (Option.some.inj e2).symm)]
    exact e2
  | exc C => obtain ⟨oe, e1, r1⟩ := q; exact ⟨oe, by rw [upd_ne (by rintro rfl; rw [hD] at e1; cases e1)]; exact e1, r1⟩
  | lck o kvs =>
    have q : H _ = some (.frz o (.dK kvs)) := q
    exact (upd_ne (by rintro rfl; rw [hD] at q; cases q)).trans q
  | ob F ks xs => obtain ⟨vs, us, e1, o1, r1, r2⟩ := q; exact ⟨vs, us, by rw [upd_ne (by rintro rfl; rw [hS] at e; cases e)]; exact e1, o1, RepVs.xupd hD _ _ r1, RepVs.xupd hD _ _ r2⟩
theorem Ext.xupd {S1 : Sto} {H1 : Hp} (hn : H1 D = none) (e : Ext S1 H1 S H) : Ext S1 H1 S (upd H D o) := ⟨fun a u h hs => by rw [upd_ne (by rintro rfl; rw [hn] at h; cases h)]; exact e.keep a u h hs, e.new⟩
end
theorem zip_self {L : Vk} : L = (L.map (·.1)).zip (L.map (·.2)) := by
  induction L with
  | nil => rfl
  | cons z L ih => rw [List.map_cons, List.map_cons, List.zip_cons_cons, ← ih]
structure Gat (K : PySem.W.Frag) (w : World) (m : Bool) (D : Addr) (acc : List Pv) (S : Sto) (H : Hp) (L : Vk) (ys : List Pv) : Prop where
  at' : H D = some (SetMO m w D L)
  keys : L.map (·.2) = ys.map toK
  nd : (L.map (·.2)).Nodup
  rep : RepVs K H S ys (L.map (·.1))
  so : setOf acc ys
  ok : ∀ y ∈ acc, kOk m y
theorem Gat.kvs {K : PySem.W.Frag} {w : World} {m : Bool} {D : Addr} {acc : List Pv} {S : Sto} {H : Hp} {L : Vk} {ys : List Pv} (g : Gat K w m D acc S H L ys) : KVs m K H L := by
  have := kvs_of g.rep fun x hx => g.ok x ((g.so.2 x).mp hx)
  rw [← g.keys, ← zip_self] at this
  exact this
section
variable {X : Cx} {S0 : Sto} {H0 : Hp} {pos : Pos}
variable {elt tg iter : Expr} {ifs : List Expr} {scope : Scope} {fi : PFI} {t : Tg} {tt : PFB} {te : PF} {p : Pos} {cpos : Pos}
end
end PL

namespace PL
open PySem PySem.Spec PyProof.Rows L2
def flP : Pv → Bool
  | .non => true | .bl _ => true | .int _ => true | .str _ => true | _ => false
def toV : Pv → V
  | .bl b => .bl b | .int i => .int i | .str z => .str z | _ => .non
def memF (x : Pv) (ys : List Pv) : Bool := ys.any fun z => eqV (toV z) (toV x)
def oIn2 (neg : Bool) : O2 := fun x y S Q => match x, y with
  | .str x, .str y => Q (.bl (if neg then !inTxt x y else inTxt x y)) S
  | x, .tup ys => (flP x = true ∧ ys.all flP = true) ∧ Q (.bl (if neg then !memF x ys else memF x ys)) S
  | x, y => match dcP S y with
    | some (ks, xs) => (kyP x).isSome = true ∧ kysOk ks ∧ Q (.bl (if neg then !(getK ks xs x).isSome else (getK ks xs x).isSome)) S
    | none => match rdL S y with
      | some ys => (okD (top S x) = true ∧ okD (.lst ys) = true) ∧ Q (.bl (if neg then !memD (top S x) ys else memD (top S x) ys)) S
      | none => False
theorem fl_rep {K : PySem.W.Frag} {H : Hp} {S : Sto} {x : Pv} {v : V} (h : flP x = true) (r : RepV K H S x v) : v = toV x ∧ L2.flatV v = true := by
  cases x with
  | non => cases (show v = .non from r); exact ⟨rfl, rfl⟩
  | bl b => cases (show v = .bl b from r); exact ⟨rfl, rfl⟩
  | int b => cases (show v = .int b from r); exact ⟨rfl, rfl⟩
  | str b => cases (show v = .str b from r); exact ⟨rfl, rfl⟩
  | _ => cases h
theorem fls_rep {K : PySem.W.Frag} {H : Hp} {S : Sto} : ∀ {xs : List Pv} {vs : List V}, xs.all flP = true → RepVs K H S xs vs → vs = xs.map toV ∧ vs.all L2.flatV = true
  | [], vs, _, r => by cases (show vs = [] from r); exact ⟨rfl, rfl⟩
  | x :: xs, vs, h, ⟨v, us, e, r, rr⟩ => by
    subst e
    rw [List.all_cons, Bool.and_eq_true] at h
    obtain ⟨e1, f1⟩ := fl_rep h.1 r
    obtain ⟨e2, f2⟩ := fls_rep h.2 rr
    subst e1 e2
    exact ⟨rfl, by rw [List.all_cons, f1, f2]; rfl⟩
theorem memF_inV (x : Pv) (ys : List Pv) : inV (toV x) (ys.map toV) = memF x ys := by
  unfold inV memF
  rw [List.any_map]
  rfl
section
variable {X : Cx}
abbrev rIn2 (K : PySem.W.Frag) (neg : Bool) : R2 := fun x y H Q => ((∃ i j, x = .str i ∧ y = .str j ∧ Q (.bl (if neg then !(!(Builtin.Str.occurrences j i 0 j.length 1).isEmpty) else !(Builtin.Str.occurrences j i 0 j.length 1).isEmpty)) H) ∨ (if neg then rNotInD K x y H Q else rInD K x y H Q)) ∨ rIn K neg x y H Q ∨ ∃ a o, y = .ref a ∧ DGet H a x o ∧ Q (.bl (if neg then !o.isSome else o.isSome)) H
theorem opNotIn2 (hu : X.A.units + 65 < cLine) : OpR X (compareOp .NotIn) (rIn2 X.K true) := by
  refine OpR.or (OpR.or op_notin_str (op_notInD hu)) (OpR.or op_notIn_seq ?_)
  intro pins s σ H x y v u Q I rx ry h
  obtain ⟨a, o, rfl, g, q⟩ := h
  obtain rfl : u = Value.ref a := ry
  exact d_notIn (by omega) I g rx fun s3 I3 => ⟨.bl (!o.isSome), H, I3, rfl, q⟩
theorem sim_in2' (neg : Bool) : Sim2 X.K (rIn2 X.K neg) (oIn2 neg) := by
  refine ⟨fun x y S Q Q' h q => ?_, fun x y S Qp v u H Q rx ry rs h k => ?_⟩
  · unfold oIn2 at q ⊢
    split at q
    · exact h _ _ q
    · exact ⟨q.1, h _ _ q.2⟩
    · split at q
      · exact ⟨q.1, q.2.1, h _ _ q.2.2⟩
      · split at q
        · exact ⟨q.1, h _ _ q.2⟩
        · exact q.elim
  · unfold oIn2 at h
    split at h
    · refine .inl (.inl ⟨_, _, rx, ry, ?_⟩)
      have := k _ S _ H h rfl rs (Ext.refl S H)
      cases neg <;> exact this
    · rename_i ys _
      obtain ⟨⟨h1, h2⟩, h3⟩ := h
      obtain ⟨p, vs, e, hq, r⟩ := ry
      obtain ⟨e1, f1⟩ := fl_rep h1 rx
      obtain ⟨e2, f2⟩ := fls_rep h2 r
      refine .inr (.inl ⟨p, vs, e, .inr hq, f1, f2, ?_⟩)
      rw [e1, e2, memF_inV]
      exact k _ S _ H h3 rfl rs (Ext.refl S H)
    · split at h
      · rename_i ks xs e
        obtain ⟨h1, h2, h3⟩ := h
        obtain ⟨key, hk⟩ := Option.isSome_iff_exists.mp h1
        obtain ⟨a, kvs, ea, hr, r1, r2⟩ := dcP_rep rs e ry
        refine .inr (.inr ⟨a, valV kvs key, ea, .inl ⟨kvs, key, hr, kyP_rep hk rx, rfl⟩, ?_⟩)
        have e9 : (valV kvs key).isSome = (getK ks xs x).isSome := by
          rcases get_rep hk r1 r2 h2 with ⟨g1, g2⟩ | ⟨w, z, g1, g2, _⟩
          · rw [g1, g2]; rfl
          · rw [g1, g2]; rfl
        rw [e9]
        exact k _ S _ H h3 rfl rs (Ext.refl S H)
      · split at h
        · rename_i ys e
          obtain ⟨⟨h1, h2⟩, h3⟩ := h
          unfold okD at h1 h2
          rw [Bool.and_eq_true] at h1 h2
          refine .inl (.inr ?_)
          have := k _ S _ H h3 rfl rs (Ext.refl S H)
          cases neg with
          | false => exact ⟨_, _, dp_top rs rx h1.1, dp_list rs ry e (by simpa [isD] using h2.1), h1.2, by simpa [toD] using h2.2, this⟩
          | true => exact ⟨_, _, dp_top rs rx h1.1, dp_list rs ry e (by simpa [isD] using h2.1), h1.2, by simpa [toD] using h2.2, this⟩
        · exact h.elim
theorem sim_notIn2 : Sim2 X.K (rIn2 X.K true) (oIn2 true) := sim_in2' true
end
end PL

namespace PL
open PySem PySem.Spec PyProof.Rows L2
def kPv : Key → Pv
  | .inl i => .int i
  | .inr x => .str x
theorem kPv_rep {K : PySem.W.Frag} {H : Hp} {S : Sto} (k : Key) : RepV K H S (kPv k) (kV k) := by
  cases k with
  | inl i => exact rfl
  | inr x => exact rfl
theorem kyP_kPv {p : Pv} {k : Key} (h : kyP p = some k) : p = kPv k := by
  cases p with
  | int i => simp only [kyP, Option.some.injEq] at h; subst h; rfl
  | str i => simp only [kyP, Option.some.injEq] at h; subst h; rfl
  | _ => simp [kyP] at h
theorem keys_kPv : ∀ {ks : List Pv} {kvs : List (Key × V)}, (ks.map kyP = kvs.map fun kv => some kv.1) → ks = kvs.map fun kv => kPv kv.1
  | [], [], _ => rfl
  | [], _ :: _, h => by cases h
  | _ :: _, [], h => by cases h
  | k :: ks, kv :: kvs, h => by
    rw [List.map_cons, List.map_cons] at h
    injection h with h1 h2
    rw [List.map_cons, keys_kPv h2, kyP_kPv h1]
theorem RepS.chgX {K : PySem.W.Frag} {H : Hp} {S : Sto} {D : Addr} {m m' : Mo} {u : HO} (rs : RepS K H S) (h : S D = some m) (hm : RepM K (upd H D u) (put S D m') D m') : RepS K (upd H D u) (put S D m') := fun a mm ha => by
  have e := Ext.chg (H := H) (m' := m') (o := u) h
  by_cases z : a = D
  · subst z
    rw [put_same] at ha; cases ha
    exact hm
  · rw [put_ne z] at ha
    have q := rs a mm ha
    cases mm with
    | lst xs => obtain ⟨us, e1, r⟩ := q; exact ⟨us, by rw [upd_ne z]; exact e1, RepVs.ext rs e _ _ r⟩
    | dct ks xs => obtain ⟨us, e1, r, r'⟩ := q; exact ⟨us, by rw [upd_ne z]; exact e1, RepVs.ext rs e _ _ r, RepVs.ext rs e _ _ r'⟩
    | tab n => exact tab_ext rs e q (by rw [upd_ne z])
    | exc C => obtain ⟨oe, e1, r⟩ := q; exact ⟨oe, by rw [upd_ne z]; exact e1, r⟩
    | lck o kvs => exact (upd_ne z).trans q
    | ob F ks xs => obtain ⟨ws, us, e1, o1, r, r'⟩ := q; exact ⟨ws, us, by rw [upd_ne z]; exact e1, o1, RepVs.ext rs e _ _ r, RepVs.ext rs e _ _ r'⟩
section
variable {X : Cx} {S0 : Sto} {H0 : Hp} {a b e : Expr} {fa fb fe : PF} {pos p apos cpos : Pos}
def fKeysL (f : PF) : PFI := fun ρ S Q => f ρ S fun p S1 => match p with
  | .ref a => (match S1 a with
    | some (.lck o kvs) => Q (kvs.map fun kv => kPv kv.1) (fun S' => S' a = some (.lck o kvs)) S1
    | _ => False)
  | _ => False
theorem pit_keysL {tg : Expr} (h : PV X S0 H0 a fa) : PIt X S0 H0 tg a (fKeysL fa) := by
  refine ⟨fun ρ S Q Q' i q => h.mono _ _ _ _ (fun p S1 q => ?_) q, PI.imp (pi_keys h.pe) fun σ H R ⟨ρ, S, re, rs, ex, q⟩ => ?_⟩
  · split at q
    · split at q
      · exact i _ _ _ q
      · exact q
    · exact q
  · refine ⟨ρ, S, re, rs, ex, h.mono _ _ _ _ (fun p S1 q v H1 rv rs1 ex1 => ?_) q⟩
    cases p with
    | ref d =>
      have q : (match S1 d with | some (.lck o kvs) => _ | _ => False) := q
      split at q
      · rename_i o kvs e1
        have hd : H1 d = some (.frz o (.dK kvs)) := rs1 d _ e1
        refine ⟨d, o, rv, .inl ⟨kvs, hd, q (Itk d o kvs) _ ?_ rs1 ex1⟩⟩
        refine ⟨fun S' H' i x e rs' g hx => ?_, fun S' H' e rs' g => ⟨rs' d _ g, by rw [List.length_map]; exact Nat.le_refl _⟩⟩
        have hi : i < kvs.length := by
          have := (List.getElem?_eq_some_iff.mp hx).1
          rwa [List.length_map] at this
        refine ⟨⟨rs' d _ g, hi⟩, fun v H'' y => ?_⟩
        obtain ⟨rfl, k, w, hkv, rfl⟩ := y
        rw [List.getElem?_map, hkv] at hx
        cases hx
        exact ⟨kPv_rep k, rs', Ext.refl _ _⟩
      · exact q.elim
    | _ => exact q.elim
end
section
variable {X : Cx} {S0 : Sto} {H0 : Hp} {pos : Pos} {fi : PFI} {t : Tg} {tt : PFB} {tk tv : PF} {tg iter kx vx : Expr} {ifs : List Expr} {scope : Scope}
end
end PL

namespace PL
open PySem PySem.Spec PyProof.Rows L2
structure MkI (S0 : Sto) (l : Addr) (zs : List Pv) (S : Sto) : Prop where
  at_ : S l = some (.lst zs)
  old : S0 l = none
  sub : Sub S0 S
theorem MkI.one {S : Sto} {l : Addr} {zs : List Pv} (h : S l = none) : MkI S l zs (put S l (.lst zs)) := ⟨put_same, h, fun b m hb => by
  by_cases e : b = l
  · rw [e, h] at hb; cases hb
  · rw [put_ne e]; exact hb⟩
theorem Sub.none {S0 S : Sto} (h : Sub S0 S) {b : Addr} (hb : S b = none) : S0 b = none := by
  cases e : S0 b with
  | none => rfl
  | some m => rw [h b m e] at hb; cases hb
theorem MkI.app {S0 S : Sto} {l : Addr} {zs ys : List Pv} (h : MkI S0 l zs S) : MkI S0 l ys (put S l (.lst ys)) := ⟨put_same, h.old, fun b m hb => by
  by_cases e : b = l
  · rw [e, h.old] at hb; cases hb
  · rw [put_ne e]; exact h.sub b m hb⟩
theorem MkI.add {S0 S : Sto} {l l' : Addr} {zs ys : List Pv} (h : MkI S0 l zs S) (n : S l' = none) : MkI S0 l' ys (put S l' (.lst ys)) := ⟨put_same, h.sub.none n, fun b m hb => by
  by_cases e : b = l'
  · rw [e, h.sub.none n] at hb; cases hb
  · rw [put_ne e]; exact h.sub b m hb⟩
theorem MkI.out {S0 S : Sto} {l : Addr} {zs : List Pv} {Q : QV} (h : MkI S0 l zs S) (q : Q (.lst zs) S0) : Out Q (.ref l) S := Out.frz h.at_ (fun b m hb => by
  by_cases e : b = l
  · rw [e, h.old] at hb; cases hb
  · show (if b = l then _ else S b) = _
    rw [if_neg e]; exact h.sub b m hb) q
def LineI (S : Sto) (p : Pv) (xs : List Pv) : Prop := ∃ gd, itP S p = some (xs, gd) ∧ ∀ S', Sub S S' → gd S'
theorem LineI.lst {S : Sto} {xs : List Pv} : LineI S (.lst xs) xs := ⟨_, rfl, fun _ _ => trivial⟩
theorem LineI.ref {S : Sto} {a : Addr} {xs : List Pv} (h : S a = some (.lst xs)) : LineI S (.ref a) xs := ⟨fun S' => S' a = some (.lst xs), by simp [itP, h], fun S' s => s a _ h⟩
theorem MkI.up {S0 S S' : Sto} {l : Addr} {zs : List Pv} (h : MkI S0 l zs S) (s : Sub S S') : MkI S0 l zs S' := ⟨s _ _ h.at_, h.old, fun b m hb => s b m (h.sub b m hb)⟩
end PL

namespace PL
open PySem PySem.Spec PyProof.Rows L2
open PySem.W (dataLe dataLt alike AllAlike EachIs)
section
variable {X : Cx} {S0 : Sto} {H0 : Hp} {a : Expr} {pos p : Pos} {fs : PFs}
end
end PL

namespace PL
open PySem PySem.Spec PyProof.Rows L2
section
variable {X : Cx} {S0 : Sto} {H0 : Hp} {pos : Pos} {a b c : Expr}
end
end PL

namespace PL
open PySem PySem.Spec PyProof.Rows L2
abbrev Cd := List Nat
def Vd (c : Cd) : Prop := c.length ≤ 9 ∧ ∀ d ∈ c, d < 4
def Ptn (d : Cd) : Prop := d.length = 9 ∧ ∀ x ∈ d, x < 4
def covC (L : List Cd) (d : Cd) : Prop := ∃ c ∈ L, c <+: d
def Anti (L : List Cd) : Prop := ∀ a ∈ L, ∀ b ∈ L, a <+: b → a = b
def Quad (L : List Cd) (b : Cd) : Prop := ∀ s, s < 4 → b ++ [s] ∈ L
theorem Vd.sub {a c : Cd} (h : Vd c) (p : a <+: c) : Vd a := ⟨Nat.le_trans p.length_le h.1, fun d hd => h.2 d (p.subset hd)⟩
theorem pre_snoc {p c : Cd} {s : Nat} : p <+: c ++ [s] ↔ p = c ++ [s] ∨ p <+: c := List.prefix_concat_iff
theorem fill {L : List Cd} (hq : ∀ b, ¬ Quad L b) : ∀ (k : Nat) (c : Cd), Vd c → c.length + k = 9 → (∀ d, Ptn d → c <+: d → covC L d) → (∀ p, p <+: c → p ≠ c → p ∉ L) → c ∈ L
  | 0, c, hv, hl, hc, hp => by
    obtain ⟨e, he, pe⟩ := hc c ⟨by omega, hv.2⟩ (List.prefix_refl c)
    by_cases h : e = c
    · rw [← h]; exact he
    · exact absurd he (hp e pe h)
  | k + 1, c, hv, hl, hc, hp => by
    by_cases h : c ∈ L
    · exact h
    exfalso
    refine hq c fun s hs => fill hq k (c ++ [s]) ⟨by rw [List.length_append, List.length_singleton]; omega, fun d hd => ?_⟩ (by rw [List.length_append, List.length_singleton]; omega) (fun d hd pd => hc d hd ((List.prefix_append c [s]).trans pd)) fun p pp np => ?_
    · rcases List.mem_append.mp hd with z | z
      · exact hv.2 d z
      · rw [List.mem_singleton.mp z]; exact hs
    · rcases pre_snoc.mp pp with z | z
      · exact absurd z np
      · by_cases e : p = c
        · rw [e]; exact h
        · exact hp p z e
theorem drop_pre {c : Cd} (h : c ≠ []) : ∃ s, c = c.dropLast ++ [s] := ⟨c.getLast h, (List.dropLast_concat_getLast h).symm⟩
theorem canon_mem {L : List Cd} (hv : ∀ c ∈ L, Vd c) (ha : Anti L) (hq : ∀ b, ¬ Quad L b) (c : Cd) :
    c ∈ L ↔ Vd c ∧ (∀ d, Ptn d → c <+: d → covC L d) ∧ (c = [] ∨ ∃ d, Ptn d ∧ c.dropLast <+: d ∧ ¬ covC L d) := by
  constructor
  · intro h
    refine ⟨hv c h, fun d _ p => ⟨c, h, p⟩, ?_⟩
    by_cases hc : c = []
    · exact .inl hc
    refine .inr (Classical.byContradiction fun no => ?_)
    have all : ∀ d, Ptn d → c.dropLast <+: d → covC L d := fun d hd p => Classical.byContradiction fun z => no ⟨d, hd, p, z⟩
    obtain ⟨s0, e0⟩ := drop_pre hc
    have hl : c.length = c.dropLast.length + 1 := by
      have := congrArg List.length e0
      rw [List.length_append, List.length_singleton] at this
      exact this
    have h9 := (hv c h).1
    refine hq c.dropLast fun s hs => fill hq (9 - c.length) (c.dropLast ++ [s]) ⟨by rw [List.length_append, List.length_singleton]; omega, fun d hd => ?_⟩ (by rw [List.length_append, List.length_singleton]; omega) (fun d hd pd => all d hd ((List.prefix_append _ [s]).trans pd)) fun p pp np hp => ?_
    · rcases List.mem_append.mp hd with z | z
      · exact (hv c h).2 d (List.dropLast_subset c z)
      · rw [List.mem_singleton.mp z]; exact hs
    · rcases pre_snoc.mp pp with z | z
      · exact np z
      · have e := ha p hp c h (z.trans (List.dropLast_prefix c))
        have := z.length_le
        rw [e] at this
        omega
  · rintro ⟨h1, h2, h3⟩
    refine fill hq (9 - c.length) c h1 (by have := h1.1; omega) h2 fun p pp np hp => ?_
    rcases h3 with h3 | ⟨d, hd, pd, nd⟩
    · subst h3
      exact np (List.prefix_nil.mp pp)
    · have hc : c ≠ [] := fun e => by subst e; exact np (List.prefix_nil.mp pp)
      obtain ⟨s0, e0⟩ := drop_pre hc
      have : p <+: c.dropLast := by
        rw [e0] at pp np
        rcases pre_snoc.mp pp with z | z
        · exact absurd z np
        · exact z
      exact nd ⟨p, hp, this.trans pd⟩
structure Mg (R : Cd → Prop) (k : Nat) (L : List Cd) : Prop where
  vd : ∀ c ∈ L, Vd c
  nd : L.Nodup
  anti : Anti L
  cov : ∀ d, Ptn d → (covC L d ↔ R d)
  deep : ∀ b, k ≤ b.length → ¬ Quad L b
theorem Mg.begin {L : List Cd} (hv : ∀ c ∈ L, Vd c) (nd : L.Nodup) (ha : Anti L) : Mg (covC L) 9 L := ⟨hv, nd, ha, fun _ _ => Iff.rfl, fun b hb q => by
  have := (hv _ (q 0 (by decide))).1
  rw [List.length_append, List.length_singleton] at this
  omega⟩
theorem Mg.step {R : Cd → Prop} {k : Nat} {L L' : List Cd} {b : Cd} (h : Mg R k L) (hb : b.length + 1 = k) (q : Quad L b) (hm : ∀ c, c ∈ L' ↔ (c ∈ L ∧ ∀ s, s < 4 → c ≠ b ++ [s]) ∨ c = b) (nd : L'.Nodup) : Mg R k L' := by
  have vb : Vd b := (h.vd _ (q 0 (by decide))).sub (List.prefix_append b [0])
  have l9 : b.length + 1 ≤ 9 := by
    have := (h.vd _ (q 0 (by decide))).1
    rwa [List.length_append, List.length_singleton] at this
  have nb : b ∉ L := fun z => by
    have := congrArg List.length (h.anti b z _ (q 0 (by decide)) (List.prefix_append b [0]))
    rw [List.length_append, List.length_singleton] at this
    omega
  have kid : ∀ c, (∀ d ∈ c, d < 4) → b <+: c → c ≠ b → ∃ s, s < 4 ∧ b ++ [s] <+: c := fun c hc p n => by
    obtain ⟨t, e⟩ := p
    cases t with
    | nil => rw [List.append_nil] at e; exact absurd e.symm n
    | cons s t =>
      refine ⟨s, hc s (by rw [← e]; simp), t, ?_⟩
      rw [← e, List.append_assoc]; rfl
  refine ⟨fun c hc => ?_, nd, fun x hx y hy p => ?_, fun d hd => ?_, fun b' hb' q' => ?_⟩
  · rcases (hm c).mp hc with z | z
    · exact h.vd c z.1
    · rw [z]; exact vb
  · rcases (hm x).mp hx with ⟨x1, x2⟩ | rfl
    · rcases (hm y).mp hy with ⟨y1, y2⟩ | rfl
      · exact h.anti x x1 y y1 p
      · exact absurd (h.anti x x1 _ (q 0 (by decide)) (p.trans (List.prefix_append y [0]))) (x2 0 (by decide))
    · rcases (hm y).mp hy with ⟨y1, y2⟩ | rfl
      · exfalso
        obtain ⟨s, hs, ps⟩ := kid y (h.vd y y1).2 p (fun e => nb (by rw [← e]; exact y1))
        exact y2 s hs (h.anti _ (q s hs) y y1 ps).symm
      · rfl
  · rw [← h.cov d hd]
    constructor
    · rintro ⟨c, hc, p⟩
      rcases (hm c).mp hc with ⟨c1, _⟩ | rfl
      · exact ⟨c, c1, p⟩
      · obtain ⟨s, hs, ps⟩ := kid d hd.2 p (fun e => by have := hd.1; rw [e] at this; omega)
        exact ⟨_, q s hs, ps⟩
    · rintro ⟨c, hc, p⟩
      by_cases z : ∃ s, s < 4 ∧ c = b ++ [s]
      · obtain ⟨s, hs, rfl⟩ := z
        exact ⟨b, (hm b).mpr (.inr rfl), (List.prefix_append b [s]).trans p⟩
      · exact ⟨c, (hm c).mpr (.inl ⟨hc, fun s hs e => z ⟨s, hs, e⟩⟩), p⟩
  · refine h.deep b' hb' fun s hs => ?_
    rcases (hm _).mp (q' s hs) with ⟨z, _⟩ | z
    · exact z
    · have := congrArg List.length z
      rw [List.length_append, List.length_singleton] at this
      omega
structure Mi (R : Cd → Prop) (k : Nat) (L0 : List Cd) (done : List Cd) (L : List Cd) : Prop where
  mg : Mg R k L
  old : ∀ c ∈ L, c.length = k → c ∈ L0
  no : ∀ b ∈ done, ¬ Quad L b
theorem Mi.begin {R : Cd → Prop} {k : Nat} {L : List Cd} (h : Mg R k L) : Mi R k L [] L := ⟨h, fun c hc _ => hc, fun b hb => by cases hb⟩
theorem Mi.skip {R : Cd → Prop} {k : Nat} {L0 done L : List Cd} {b : Cd} (h : Mi R k L0 done L) (nq : ¬ Quad L b) : Mi R k L0 (done ++ [b]) L := ⟨h.mg, h.old, fun x hx => (List.mem_append.mp hx).elim (h.no x) fun z => by rw [List.mem_singleton.mp z]; exact nq⟩
theorem Mi.step {R : Cd → Prop} {k : Nat} {L0 done L L' : List Cd} {b : Cd} (h : Mi R k L0 done L) (hd : ∀ x ∈ done, x.length + 1 = k) (hb : b.length + 1 = k) (q : Quad L b) (hm : ∀ c, c ∈ L' ↔ (c ∈ L ∧ ∀ s, s < 4 → c ≠ b ++ [s]) ∨ c = b) (nd : L'.Nodup) : Mi R k L0 (done ++ [b]) L' := by
  have back : ∀ c ∈ L', c.length = k → c ∈ L ∧ ∀ s, s < 4 → c ≠ b ++ [s] := fun c hc hl => by
    rcases (hm c).mp hc with z | z
    · exact z
    · rw [z] at hl; omega
  refine ⟨h.mg.step hb q hm nd, fun c hc hl => h.old c (back c hc hl).1 hl, fun x hx q' => ?_⟩
  rcases List.mem_append.mp hx with z | z
  · exact h.no x z fun s hs => (back _ (q' s hs) (by rw [List.length_append, List.length_singleton]; exact hd x z)).1
  · rw [List.mem_singleton.mp z] at q'
    exact (back _ (q' 0 (by decide)) (by rw [List.length_append, List.length_singleton]; exact hb)).2 0 (by decide) rfl
theorem Mi.fin {R : Cd → Prop} {k : Nat} {L0 done L : List Cd} (h : Mi R (k + 1) L0 done L) (all : ∀ c ∈ L0, c.length = k + 1 → c.dropLast ∈ done) : Mg R k L := ⟨h.mg.vd, h.mg.nd, h.mg.anti, h.mg.cov, fun b hb q => by
  by_cases e : b.length = k
  · have hl : (b ++ [0]).length = k + 1 := by rw [List.length_append, List.length_singleton, e]
    have := all _ (h.old _ (q 0 (by decide)) hl) hl
    rw [List.dropLast_concat] at this
    exact h.no b this q
  · exact h.mg.deep b (by omega) q⟩
def leC (a b : Cd) : Bool := leS (cdS a) (cdS b)
def sortC (L : List Cd) : List Cd := L.mergeSort leC
theorem sortC_map (L : List Cd) : sortS (L.map cdS) = (sortC L).map cdS := by
  unfold sortS sortC
  rw [List.map_mergeSort (s := leS) (f := cdS)]
  intro a _ b _; rfl
theorem cd_inj {a b : Cd} (h : cdS a = cdS b) : a = b := by
  have h1 := congrArg (fun x : Str => x.cps.toList) h
  have h1 : a.map (· + 48) = b.map (· + 48) := by simpa [cdS] using h1
  exact (List.map_inj_right (fun x y e => by omega)).mp h1
theorem leC_anti {a b : Cd} (h : leC a b = true) (h' : leC b a = true) : a = b := by
  unfold leC leS at *
  rw [decide_eq_true_eq] at h h'
  exact cd_inj (str_ext (List.le_antisymm h h'))
theorem sortC_pw (L : List Cd) : (sortC L).Pairwise fun a b => leC a b = true := List.pairwise_mergeSort (le := leC) (fun a b c => leS_trans (cdS a) (cdS b) (cdS c)) (fun a b => leS_total (cdS a) (cdS b)) L
theorem sortC_mem {L : List Cd} {c : Cd} : c ∈ sortC L ↔ c ∈ L := (List.mergeSort_perm L leC).mem_iff
theorem sortC_nd {L : List Cd} (h : L.Nodup) : (sortC L).Nodup := (List.mergeSort_perm L leC).nodup_iff.mpr h
structure IsM (R : Cd → Prop) (M : List Cd) : Prop where
  vd : ∀ c ∈ M, Vd c
  nd : M.Nodup
  anti : Anti M
  cov : ∀ d, Ptn d → (covC M d ↔ R d)
  no : ∀ b, ¬ Quad M b
  pw : M.Pairwise fun a b => leC a b = true
theorem Mg.isM {R : Cd → Prop} {L : List Cd} (h : Mg R 0 L) : IsM R (sortC L) := ⟨fun c hc => h.vd c (sortC_mem.mp hc), sortC_nd h.nd, fun a ha b hb => h.anti a (sortC_mem.mp ha) b (sortC_mem.mp hb), fun d hd => by
    rw [← h.cov d hd]
    exact ⟨fun ⟨c, hc, p⟩ => ⟨c, sortC_mem.mp hc, p⟩, fun ⟨c, hc, p⟩ => ⟨c, sortC_mem.mpr hc, p⟩⟩, fun b q => h.deep b (Nat.zero_le _) fun s hs => sortC_mem.mp (q s hs), sortC_pw L⟩
theorem IsM.uniq {R R' : Cd → Prop} {M M' : List Cd} (h : IsM R M) (h' : IsM R' M') (e : ∀ d, Ptn d → (R d ↔ R' d)) : M = M' := by
  have hc : ∀ d, Ptn d → (covC M d ↔ covC M' d) := fun d hd => by rw [h.cov d hd, h'.cov d hd, e d hd]
  have hm : ∀ c, c ∈ M ↔ c ∈ M' := fun c => by
    rw [canon_mem h.vd h.anti h.no, canon_mem h'.vd h'.anti h'.no]
    refine and_congr_right fun _ => and_congr ?_ (or_congr_right ?_)
    · exact forall_congr' fun d => forall_congr' fun hd => forall_congr' fun _ => hc d hd
    · refine exists_congr fun d => ?_
      constructor
      · rintro ⟨a, b, c⟩; exact ⟨a, b, fun z => c ((hc d a).mpr z)⟩
      · rintro ⟨a, b, c⟩; exact ⟨a, b, fun z => c ((hc d a).mp z)⟩
  exact (nodup_perm h.nd h'.nd hm).eq_of_pairwise (le := fun a b => leC a b = true) (fun a b _ _ h1 h2 => leC_anti h1 h2) h.pw h'.pw
end PL

namespace PL
open PySem PySem.Spec PyProof.Rows L2
abbrev cvs (L : List Cd) : List Pv := L.map cdK
abbrev trs (L : List Cd) : List Pv := L.map fun _ => Pv.bl true
theorem ky_cvs (L : List Cd) : kysOk (cvs L) := fun z hz => by
  obtain ⟨c, _, rfl⟩ := List.mem_map.mp hz
  rfl
def addC (L : List Cd) (c : Cd) : List Cd := if c ∈ L then L else L ++ [c]
theorem addC_mem {L : List Cd} {c x : Cd} : x ∈ addC L c ↔ x ∈ L ∨ x = c := by
  unfold addC
  split
  · rename_i h
    exact ⟨.inl, fun z => z.elim id fun e => by rw [e]; exact h⟩
  · rw [List.mem_append, List.mem_singleton]
theorem addC_nd {L : List Cd} {c : Cd} (h : L.Nodup) : (addC L c).Nodup := by
  unfold addC
  split
  · exact h
  · rename_i n
    rw [List.nodup_append]
    exact ⟨h, by simp, fun a ha b hb e => by rw [List.mem_singleton.mp hb] at e; exact n (by rw [← e]; exact ha)⟩
structure Us (U : List Cd) : Prop where
  cl : ∀ u ∈ U, ∀ p, p <+: u → p ∈ U
  few : ∀ k, (U.filter fun u => decide (u.length = k)).length < 4000
  all : U.length ≤ 400
def Bg (U L : List Cd) : Prop := ∀ c ∈ L, c.dropLast ∈ U
theorem Bg.app {U a b : List Cd} (h : Bg U a) (h' : Bg U b) : Bg U (a ++ b) := fun c hc => (List.mem_append.mp hc).elim (h c) (h' c)
theorem nodup_leC {α : Type} [DecidableEq α] : ∀ {l D : List α}, l.Nodup → (∀ x ∈ l, x ∈ D) → l.length ≤ D.length
  | [], _, _, _ => Nat.zero_le _
  | a :: l, D, h, hs => by
    have ha := hs a List.mem_cons_self
    have h2 := nodup_leC (l := l) (D := D.erase a) (List.nodup_cons.mp h).2 fun x hx => (List.mem_erase_of_ne (fun e => (List.nodup_cons.mp h).1 (by rw [← e]; exact hx))).mpr (hs x (List.mem_cons_of_mem _ hx))
    rw [List.length_erase_of_mem ha] at h2
    have := List.length_pos_of_mem ha
    rw [List.length_cons]
    omega
theorem bg_len {U L : List Cd} (h : Bg U L) (nd : L.Nodup) (hv : ∀ c ∈ L, ∀ d ∈ c, d < 4) : L.length ≤ 4 * U.length + 1 := by
  have sub : ∀ c ∈ L, c ∈ [] :: U.flatMap fun u => [u ++ [0], u ++ [1], u ++ [2], u ++ [3]] := fun c hc => by
    by_cases e : c = []
    · rw [e]; exact List.mem_cons_self
    · obtain ⟨s, es⟩ := drop_pre e
      refine List.mem_cons_of_mem _ (List.mem_flatMap.mpr ⟨c.dropLast, h c hc, ?_⟩)
      have h4 := hv c hc s (by rw [es]; simp)
      have : s = 0 ∨ s = 1 ∨ s = 2 ∨ s = 3 := by omega
      rw [es]
      simp only [List.dropLast_concat]
      rcases this with rfl | rfl | rfl | rfl <;> simp
  have l := nodup_leC nd sub
  have : (U.flatMap fun u => [u ++ [0], u ++ [1], u ++ [2], u ++ [3]]).length = 4 * U.length := by
    clear l sub h
    induction U with
    | nil => rfl
    | cons u U ih =>
      rw [List.flatMap_cons, List.length_append, ih, List.length_cons]
      simp only [List.length_cons, List.length_nil]
      omega
  rw [List.length_cons, this] at l
  exact l
end PL

namespace PL
open PySem PySem.Spec PyProof.Rows L2
def pB (a b : Cd) : Bool := a.isPrefixOf b
theorem pB_iff {a b : Cd} : pB a b = true ↔ a <+: b := List.isPrefixOf_iff_prefix
def kidsC : List Nat := [0, 1, 2, 3]
theorem pre_cmp {a b d : Cd} (h : a <+: d) (h' : b <+: d) : a <+: b ∨ b <+: a := List.prefix_or_prefix_of_prefix h h'
theorem kid_lt {s : Nat} (h : s ∈ kidsC) : s < 4 := by
  simp only [kidsC, List.mem_cons, List.not_mem_nil, or_false] at h
  omega
theorem lt_kid {s : Nat} (h : s < 4) : s ∈ kidsC := by
  simp only [kidsC, List.mem_cons, List.not_mem_nil, or_false]
  omega
end PL

namespace PL
open PySem PySem.Spec PyProof.Rows L2 PLS
open PySem.W (dataLe dataLt alike AllAlike EachIs)
theorem lc2_depC {α β : Type} {gd : Sto → Prop} {t t1 : Tg} {fi1 : PFI} {te : PF} {ρ : Env'} {vs1 : List Nat} {D : Addr} {Q : List Pv → Sto → Prop} {S : Sto} (N : Nat) (ys : α → List β) (g : α → Pv) (g1 : β → Pv) (f : α → β → Pv) (hD : S D = none) (hg : ∀ S', gd S') : ∀ (xs : List α) (acc : List Pv), acc.length + xs.length * N ≤ sizeLine →
    (∀ x ∈ xs, (ys x).length ≤ N ∧ ∀ S', Has S S' → ∃ ρ2, bindT S' t (g x) ρ = some ρ2 ∧ (∀ k, k ((ys x).map g1) tru S' → fi1 ρ2 S' k) ∧ ∀ y ∈ ys x, ∀ S'', Has S S'' → ∃ ρ3, bindT S'' t1 (g1 y) (wipeP ρ2 vs1) = some ρ3 ∧ ∀ k : QV, k (f x y) S'' → te ρ3 S'' k) →
    Q (acc ++ xs.flatMap fun x => (ys x).map (f x)) S → lc2W gd t fYes fi1 t1 fYes te ρ vs1 D Q (xs.map g) acc S
  | [], acc, _, _, q => ⟨hg _, by simpa using q⟩
  | x :: xs, acc, l, h, q => by
    refine ⟨hg _, ?_⟩
    obtain ⟨hl, hh⟩ := h x List.mem_cons_self
    obtain ⟨ρ2, e, h1, h2⟩ := hh _ (Has.put (m := .lst acc) hD)
    rw [e]
    have l' : acc.length + (N + xs.length * N) ≤ sizeLine := by
      rw [List.length_cons, Nat.succ_mul] at l
      omega
    refine h1 _ ⟨put_same, ?_⟩
    rw [del_put hD]
    refine lcW_pure g1 (fun _ => true) (f x) hD (fun _ _ => trivial) (ys x) acc (by omega) (fun y hy S' hs => ?_) ?_
    · obtain ⟨ρ3, e3, h3⟩ := h2 y hy S' hs
      exact ⟨ρ3, e3, fun kk z => z, fun _ k z => h3 k z⟩
    · rw [List.filter_eq_self.mpr (fun _ _ => rfl)]
      refine lc2_depC N ys g g1 f hD hg xs _ (by rw [List.length_append, List.length_map]; omega) (fun z hz => h z (List.mem_cons_of_mem _ hz)) ?_
      rw [List.flatMap_cons, ← List.append_assoc] at q
      exact q
theorem set_cds {bs : List Cd} {ys : List Pv} (h : setOf (cvs bs) ys) : ∃ B : List Cd, ys = cvs B ∧ B.Nodup ∧ ∀ b, b ∈ B ↔ b ∈ bs := by
  obtain ⟨nd, hm⟩ := h
  have main : ∀ ys : List Pv, (∀ y ∈ ys, y ∈ cvs bs) → ∃ B : List Cd, ys = cvs B := by
    intro ys
    induction ys with
    | nil => exact fun _ => ⟨[], rfl⟩
    | cons y ys ih =>
      intro h
      obtain ⟨B, e⟩ := ih fun z hz => h z (List.mem_cons_of_mem _ hz)
      obtain ⟨c, _, ec⟩ := List.mem_map.mp (h y List.mem_cons_self)
      exact ⟨c :: B, by rw [e, ← ec]; rfl⟩
  obtain ⟨B, rfl⟩ := main ys fun y hy => (hm y).mp hy
  have inj : ∀ a b : Cd, cdK a = cdK b → a = b := fun a b e => cdS_inj (by injection e)
  refine ⟨B, rfl, List.Pairwise.of_map cdK (fun x y hne e => hne (congrArg cdK e)) nd, fun b => ?_⟩
  have := hm (cdK b)
  rw [List.mem_map, List.mem_map] at this
  constructor
  · intro hb
    obtain ⟨c, hc, e⟩ := this.mp ⟨b, hb, rfl⟩
    rw [← inj _ _ e]; exact hc
  · intro hb
    obtain ⟨c, hc, e⟩ := this.mpr ⟨b, hb, rfl⟩
    rw [← inj _ _ e]; exact hc
theorem sort_cvs (B : List Cd) : sortP (cvs B) = cvs (sortC B) := by
  have e : cvs B = (B.map cdS).map Pv.str := by rw [List.map_map]; rfl
  rw [e, sortP_str, sortC_map, List.map_map]
  rfl
theorem alike_cvs (B : List Cd) : AllAlike ((cvs B).map toD) ∧ PySem.W.Sortable ((cvs B).map toD) := by
  have st : ∀ d ∈ (cvs B).map toD, ∃ x, d = PyData.str x := fun d hd => by
    obtain ⟨p, hp, rfl⟩ := List.mem_map.mp hd
    obtain ⟨c, _, rfl⟩ := List.mem_map.mp hp
    exact ⟨_, rfl⟩
  refine ⟨fun d hd d' hd' => ?_, .inr fun d hd => ?_⟩
  · obtain ⟨x, rfl⟩ := st d hd
    obtain ⟨y, rfl⟩ := st d' hd'
    rfl
  · obtain ⟨x, rfl⟩ := st d hd
    exact ⟨(by intro e; cases e), (by intro xs e; cases e)⟩
end PL

namespace PL
open PySem PySem.Spec PyProof.Rows L2 PLS
theorem cd_kid (b : Cd) (s : Nat) : cdS b ++ (⟨#[s + 48]⟩ : Str) = cdS (b ++ [s]) := cd_app b [s]
theorem fig_chars : chars (Str.ofString "0123") = kidsC.map fg := by
  rw [show Str.ofString "0123" = cdS kidsC from by decide +kernel, cd_chars]
def quadB (L : List Cd) (b : Cd) : Bool := (kidsC.map fun s => decide (b ++ [s] ∈ L)).all id
theorem quadB_iff {L : List Cd} {b : Cd} : quadB L b = true ↔ Quad L b := by
  unfold quadB Quad
  rw [List.all_map, List.all_eq_true]
  constructor
  · intro h s hs
    exact of_decide_eq_true (h s (lt_kid hs))
  · intro h s hs
    exact decide_eq_true (h s (kid_lt hs))
theorem Mg.len {R : Cd → Prop} {k : Nat} {U L : List Cd} (h : Mg R k L) (hU : Us U) (hb : Bg U L) : L.length ≤ 1601 := by
  have h1 := bg_len hb h.nd fun c hc => (h.vd c hc).2
  have := hU.all
  omega
theorem IsM.len {R : Cd → Prop} {U M : List Cd} (h : IsM R M) (hU : Us U) (hb : Bg U M) : M.length ≤ 1601 := by
  have h1 := bg_len hb h.nd fun c hc => (h.vd c hc).2
  have := hU.all
  omega
def begsC (L : List Cd) (k : Nat) : List Cd := (L.filter fun c => decide (c.length = k)).map List.dropLast
theorem begs_mem {L : List Cd} {k : Nat} {b : Cd} : b ∈ begsC L k ↔ ∃ c ∈ L, c.length = k ∧ b = c.dropLast := by
  unfold begsC
  rw [List.mem_map]
  constructor
  · rintro ⟨c, h, rfl⟩
    exact ⟨c, (List.mem_filter.mp h).1, of_decide_eq_true (List.mem_filter.mp h).2, rfl⟩
  · rintro ⟨c, h, hl, rfl⟩
    exact ⟨c, List.mem_filter.mpr ⟨h, decide_eq_true hl⟩, rfl⟩
end PL

namespace PL
open PySem PySem.Spec PyProof.Rows L2 PLS
theorem IsM.of {R R' : Cd → Prop} {M : List Cd} (h : IsM R M) (e : ∀ d, Ptn d → (R d ↔ R' d)) : IsM R' M := ⟨h.vd, h.nd, h.anti, fun d hd => (h.cov d hd).trans (e d hd), h.no, h.pw⟩
theorem IsM.nil {R : Cd → Prop} (e : ∀ d, Ptn d → ¬ R d) : IsM R [] := ⟨(fun c h => by cases h), List.nodup_nil, (fun a h => by cases h), fun d hd => ⟨(fun ⟨c, hc, _⟩ => nomatch hc), fun z => absurd z (e d hd)⟩, (fun b q => nomatch q 0 (by decide)), List.Pairwise.nil⟩
structure CsOk (M : List Cd) : Prop where
  vd : ∀ c ∈ M, Vd c
  nd : M.Nodup
  anti : Anti M
  pw : M.Pairwise fun a b => leC a b = true
theorem IsM.cs {R : Cd → Prop} {M : List Cd} (h : IsM R M) : CsOk M := ⟨h.vd, h.nd, h.anti, h.pw⟩
theorem CsOk.sort {M : List Cd} (hv : ∀ c ∈ M, Vd c) (nd : M.Nodup) (ha : Anti M) : CsOk (sortC M) := ⟨fun c hc => hv c (sortC_mem.mp hc), sortC_nd nd, fun a h1 b h2 => ha a (sortC_mem.mp h1) b (sortC_mem.mp h2), sortC_pw M⟩
theorem codeN_vd {c : Cd} (h : Vd c) : codeN 9 (cdS c) = true := codeN_cd h.2 h.1 (by decide)
theorem strs_cvs (M : List Cd) : cvs M = (M.map cdS).map Pv.str := by rw [List.map_map]; rfl
theorem CsOk.codes {M : List Cd} (h : CsOk M) : codesP 9 (.tup (cvs M)) = true := by
  rw [strs_cvs]
  show (match allS ((M.map cdS).map Pv.str) with | some ss => codesS 9 ss | none => false) = true
  rw [allS_str]
  show codesS 9 (M.map cdS) = true
  unfold codesS
  rw [Bool.and_eq_true]
  refine ⟨List.all_eq_true.mpr fun s hs => ?_, (adj_pw (r := apart) (fun _ _ _ => apart_trans) _).mpr ?_⟩
  · obtain ⟨c, hc, rfl⟩ := List.mem_map.mp hs
    exact codeN_vd (h.vd c hc)
  · refine List.pairwise_map.mpr ?_
    have := h.pw.and h.nd
    refine List.Pairwise.imp_of_mem (fun {a b} ha hb z => ?_) this
    unfold apart
    have e1 : strLt (cdS a) (cdS b) = true := leS_lt z.1 fun e => z.2 (cd_inj e)
    have e2 : preS (cdS a) (cdS b) = false := by
      rw [preS_cd]
      cases q : a.isPrefixOf b with
      | false => rfl
      | true => exact absurd (h.anti a ha b hb (List.isPrefixOf_iff_prefix.mp q)) z.2
    rw [e1, e2]; rfl
theorem covC_sort {L : List Cd} {d : Cd} : covC (sortC L) d ↔ covC L d := ⟨fun ⟨c, hc, p⟩ => ⟨c, sortC_mem.mp hc, p⟩, fun ⟨c, hc, p⟩ => ⟨c, sortC_mem.mpr hc, p⟩⟩
def PwN (L : List Cd) : Prop := L.Pairwise fun a b => ¬ a <+: b ∧ ¬ b <+: a
def farC (c : Cd) (L : List Cd) : List Cd := L.filter fun x => !pB c x && !pB x c
theorem far_mem {c x : Cd} {L : List Cd} : x ∈ farC c L ↔ x ∈ L ∧ ¬ c <+: x ∧ ¬ x <+: c := by
  unfold farC
  rw [List.mem_filter, Bool.and_eq_true, Bool.not_eq_true', Bool.not_eq_true', ← Bool.not_eq_true, ← Bool.not_eq_true, pB_iff, pB_iff]
theorem PwN.far {L : List Cd} (h : PwN L) (c : Cd) : PwN (farC c L) := List.Pairwise.sublist List.filter_sublist h
theorem PwN.add {L : List Cd} (h : PwN L) (c : Cd) : PwN (farC c L ++ [c]) := List.pairwise_append.mpr ⟨h.far c, List.pairwise_singleton _ _, fun x hx y hy => by
  rw [List.mem_singleton.mp hy]
  have := far_mem.mp hx
  exact ⟨this.2.2, this.2.1⟩⟩
theorem PwN.nd {L : List Cd} (h : PwN L) : L.Nodup := h.imp fun {a b} z e => z.1 (by rw [e]; exact List.prefix_refl b)
theorem PwN.anti : ∀ {L : List Cd}, PwN L → Anti L
  | [], _ => fun a h => by cases h
  | x :: L, h => fun a ha b hb p => by
    obtain ⟨h1, h2⟩ := List.pairwise_cons.mp h
    rcases List.mem_cons.mp ha with e | ha <;> rcases List.mem_cons.mp hb with e' | hb
    · rw [e, e']
    · rw [e] at p; exact absurd p (h1 b hb).1
    · rw [e'] at p; exact absurd p (h1 a ha).2
    · exact PwN.anti h2 a ha b hb p
theorem sz3 {n : Nat} (h : n ≤ 1000000) : n ≤ sizeLine := Nat.le_trans h (by decide)
end PL

namespace PL
open PySem PySem.Spec PyProof.Rows L2
open HT (slicePart_)
namespace EvT
section
variable {prog : Program} {w : World} {A : Around} {E : Value → Shared → Prop} {s : Shared}
end
section
variable {X : Cx}
end
end EvT
section
variable {X : Cx} {S0 : Sto} {H0 : Hp} {a : Expr} {fa : PF} {pos : Pos}
end
end PL

namespace PL
open PySem PySem.Spec PyProof.Rows L2 PLS
def Fn (n : Nat) (d : Cd) : Prop := d.length = n ∧ ∀ x ∈ d, x < 4
def Up (n : Nat) (c : Cd) : Prop := c.length ≤ n ∧ ∀ x ∈ c, x < 4
theorem up_kid {n : Nat} {c : Cd} {s : Nat} (h : Up n c) (hl : c.length < n) (hs : s < 4) : Up n (c ++ [s]) := ⟨by rw [List.length_append, List.length_singleton]; omega, fun x hx => by
  rcases List.mem_append.mp hx with z | z
  · exact h.2 x z
  · rw [List.mem_singleton.mp z]; exact hs⟩
def Full (n : Nat) (F : List Cd) (c : Cd) : Prop := ∀ d, Fn n d → c <+: d → d ∈ F
def w1 (k : Nat) : Nat := (4 ^ (k + 1) - 1) / 3
structure FineI (n : Nat) (L Lf F : List Cd) : Prop where
  nd : F.Nodup
  up : ∀ c ∈ Lf, Up n c
  sub : ∀ d ∈ F, Fn n d ∧ covC L d
  lf : ∀ c ∈ Lf, ∀ d, Fn n d → c <+: d → covC L d
  all : ∀ d, Fn n d → covC L d → d ∈ F ∨ covC Lf d
structure FineOk (n : Nat) (L F : List Cd) : Prop where
  nd : F.Nodup
  mem : ∀ d, d ∈ F ↔ Fn n d ∧ covC L d
theorem FineI.begin {n : Nat} {L : List Cd} (h : ∀ c ∈ L, Up n c) : FineI n L L [] := ⟨List.nodup_nil, h, (fun d hd => by cases hd), fun c hc d _ p => ⟨c, hc, p⟩, fun d _ h => .inr h⟩
theorem FineI.fin {n : Nat} {L F : List Cd} (h : FineI n L [] F) : FineOk n L F := ⟨h.nd, fun d => ⟨h.sub d, fun z => (h.all d z.1 z.2).elim id fun ⟨c, hc, _⟩ => by cases hc⟩⟩
theorem FineI.put {n : Nat} {L Lf F : List Cd} {c : Cd} (h : FineI n L (Lf ++ [c]) F) (hl : c.length = n) : FineI n L Lf (addC F c) := by
  have hu := h.up c (by simp)
  refine ⟨addC_nd h.nd, fun x hx => h.up x (List.mem_append.mpr (.inl hx)), fun d hd => ?_, fun x hx => h.lf x (List.mem_append.mpr (.inl hx)), fun d hd hc => ?_⟩
  · rcases addC_mem.mp hd with z | rfl
    · exact h.sub d z
    · exact ⟨⟨hl, hu.2⟩, h.lf d (by simp) d ⟨hl, hu.2⟩ (List.prefix_refl d)⟩
  · rcases h.all d hd hc with z | ⟨x, hx, p⟩
    · exact .inl (addC_mem.mpr (.inl z))
    · rcases List.mem_append.mp hx with z | z
      · exact .inr ⟨x, z, p⟩
      · rw [List.mem_singleton.mp z] at p
        exact .inl (addC_mem.mpr (.inr (p.eq_of_length (by rw [hl, hd.1])).symm))
theorem pre_kid {n : Nat} {c d : Cd} (hd : Fn n d) (p : c <+: d) (hl : c.length < n) : ∃ s, s < 4 ∧ c ++ [s] <+: d := by
  obtain ⟨r, rfl⟩ := p
  cases r with
  | nil => have := hd.1; rw [List.append_nil] at this; omega
  | cons s r => exact ⟨s, hd.2 s (by simp), ⟨r, by simp⟩⟩
structure FewI (n : Nat) (F Lf Fd : List Cd) : Prop where
  up : ∀ c ∈ Lf ++ Fd, Up n c
  pw : PwN (Lf ++ Fd)
  cov : ∀ d ∈ F, covC Lf d ∨ covC Fd d
  full : ∀ c ∈ Fd, Full n F c
  par : ∀ c ∈ Lf ++ Fd, c ≠ [] → ¬ Full n F c.dropLast
theorem PwN.perm {a b : List Cd} (p : a.Perm b) (h : PwN a) : PwN b := (p.pairwise_iff (R := fun a b : Cd => ¬ a <+: b ∧ ¬ b <+: a) fun {x y} z => ⟨z.2, z.1⟩).mp h
theorem FewI.begin (n : Nat) (F : List Cd) : FewI n F [[]] [] := ⟨fun c hc => by
    rw [List.append_nil, List.mem_singleton] at hc
    rw [hc]; exact ⟨Nat.zero_le _, fun x hx => by cases hx⟩, by rw [List.append_nil]; exact List.pairwise_singleton _ _, fun d _ => .inl ⟨[], by simp, List.nil_prefix⟩, (fun c hc => by cases hc), fun c hc ne => absurd (by simpa using hc) ne⟩
theorem FewI.found {n : Nat} {F Lf Fd : List Cd} {c : Cd} (h : FewI n F (Lf ++ [c]) Fd) (hf : Full n F c) : FewI n F Lf (Fd ++ [c]) := by
  have pm : (Lf ++ [c] ++ Fd).Perm (Lf ++ (Fd ++ [c])) := by rw [List.append_assoc]; exact List.Perm.append_left _ List.perm_append_comm
  refine ⟨fun x hx => h.up x (pm.mem_iff.mpr hx), h.pw.perm pm, fun d hd => ?_, fun x hx => ?_, fun x hx => h.par x (pm.mem_iff.mpr hx)⟩
  · rcases h.cov d hd with ⟨x, hx, p⟩ | ⟨x, hx, p⟩
    · rcases List.mem_append.mp hx with z | z
      · exact .inl ⟨x, z, p⟩
      · exact .inr ⟨x, List.mem_append.mpr (.inr z), p⟩
    · exact .inr ⟨x, List.mem_append.mpr (.inl hx), p⟩
  · rcases List.mem_append.mp hx with z | z
    · exact h.full x z
    · rw [List.mem_singleton.mp z]; exact hf
theorem FewI.drop {n : Nat} {F Lf Fd : List Cd} {c : Cd} (h : FewI n F (Lf ++ [c]) Fd) (hn : ∀ d ∈ F, ¬ c <+: d) : FewI n F Lf Fd := by
  have hs : ∀ x, x ∈ Lf ++ Fd → x ∈ Lf ++ [c] ++ Fd := fun x hx => by
    rcases List.mem_append.mp hx with z | z
    · simp [z]
    · simp [z]
  refine ⟨fun x hx => h.up x (hs x hx), List.Pairwise.sublist ?_ h.pw, fun d hd => ?_, h.full, fun x hx => h.par x (hs x hx)⟩
  · exact List.Sublist.append_right (List.sublist_append_left _ _) _
  · rcases h.cov d hd with ⟨x, hx, p⟩ | z
    · rcases List.mem_append.mp hx with z | z
      · exact .inl ⟨x, z, p⟩
      · rw [List.mem_singleton.mp z] at p
        exact absurd p (hn d hd)
    · exact .inr z
theorem FewI.isM {n : Nat} {F Fd : List Cd} (h : FewI n F [] Fd) (hF : ∀ d ∈ F, Fn n d) (n9 : n ≤ 9) : IsM (fun d => d.take n ∈ F) (sortC Fd) := by
  have hu : ∀ c ∈ Fd, Up n c := fun c hc => h.up c (by simpa using hc)
  have hp : PwN Fd := by have := h.pw; rwa [List.nil_append] at this
  refine ⟨fun c hc => ?_, sortC_nd hp.nd, fun a ha b hb => hp.anti a (sortC_mem.mp ha) b (sortC_mem.mp hb), fun d hd => ?_, fun b q => ?_, sortC_pw Fd⟩
  · have := hu c (sortC_mem.mp hc)
    exact ⟨Nat.le_trans this.1 n9, this.2⟩
  · have hfn : Fn n (d.take n) := ⟨by rw [List.length_take, hd.1]; omega, fun x hx => hd.2 x (List.mem_of_mem_take hx)⟩
    rw [covC_sort]
    constructor
    · rintro ⟨c, hc, p⟩
      refine h.full c hc _ hfn ?_
      rw [List.prefix_take_iff]
      exact ⟨p, (hu c hc).1⟩
    · intro z
      rcases h.cov _ z with ⟨c, hc, _⟩ | ⟨c, hc, p⟩
      · cases hc
      · exact ⟨c, hc, p.trans (List.take_prefix n d)⟩
  · have q : ∀ s, s < 4 → b ++ [s] ∈ Fd := fun s hs => sortC_mem.mp (q s hs)
    have hb := (hu _ (q 0 (by decide))).1
    rw [List.length_append, List.length_singleton] at hb
    refine h.par (b ++ [0]) (by simpa using q 0 (by decide)) (by simp) ?_
    rw [List.dropLast_concat]
    intro d hd p
    obtain ⟨s, hs, p2⟩ := pre_kid hd p (by omega)
    exact h.full _ (q s hs) d hd p2
def oDictOfT : On := fun ps S Q => match ps with
  | [x] => (match rdL S x with | some ys => ∃ ts : List (Pv × Pv), ys = ts.map tpP ∧ (∀ t ∈ ts, (kyP t.1).isSome = true) ∧ (ts.map (·.1)).Nodup ∧ ∀ a, S a = none → Q (.ref a) (put S a (.dct (ts.map (·.1)) (ts.map (·.2)))) | none => False)
  | _ => False
section
variable {X : Cx} {S0 : Sto} {H0 : Hp} {a b e : Expr} {fa fb fe : PF} {pos p : Pos} {fs : PFs}
theorem pv_dictOfT (hc : X.calm = true) (hm : X.mg "dict" = none) (ha : PVs X S0 H0 [a] fs) (hg : Gl X "dict" := by rfl) (he : starEach (a :: []) X.env = (false, eval a X.env) :: starEach [] X.env := by rfl) (hpl : (backTo pos (starEach [] X.env)).any (·.1) = false := by rfl) : PV X S0 H0 (.Call (.Name "dict" p) [a] [] pos) (fN oDictOfT fs) := by
  refine pv_callTy (call_dictP hc) ⟨fun x S Q Q' h q => ?_, fun x S Qp v H Q rx rs h k => ?_⟩ hg hm (by decide +kernel) ha (by decide) (by decide) he hpl
  · unfold oDictOfT at q ⊢
    split at q
    · split at q
      · obtain ⟨ts, h1, h2, h3, h4⟩ := q
        exact ⟨ts, h1, h2, h3, fun a ha => h _ _ (h4 a ha)⟩
      · exact q
    · exact q
  · unfold oDictOfT at h
    split at h
    · obtain ⟨v1, rfl, r1⟩ := rx.one
      split at h
      · rename_i ys e1
        obtain ⟨ts, rfl, h2, h3, h4⟩ := h
        obtain ⟨l, us, e2, hq, ru⟩ := rdL_rep rs r1 e1
        obtain ⟨ps, kvs, a1, a2, a3, a4⟩ := pairs_rep ru h2
        subst a1
        have ek := keys_rep a3 fun z hz => by obtain ⟨t, ht, rfl⟩ := List.mem_map.mp hz; exact h2 t ht
        have nd : ((([] : List (Key × V)) ++ kvs).map (·.1)).Nodup := by
          have n1 : ((ts.map (fun t : Pv × Pv => t.1)).map kyP).Nodup := by
            refine List.Pairwise.map kyP (R := fun x y => x ≠ y ∧ (kyP x).isSome = true) (fun x y h e => ?_) ?_
            · obtain ⟨c, hc⟩ := Option.isSome_iff_exists.mp h.2
              exact h.1 (kyP_inj hc (by rw [← e]; exact hc))
            · have hall : ∀ x ∈ ts.map (fun t : Pv × Pv => t.1), (kyP x).isSome = true := fun x hx => by obtain ⟨t, ht, rfl⟩ := List.mem_map.mp hx; exact h2 t ht
              exact List.Pairwise.imp_of_mem (fun {x y} hx hy hne => ⟨hne, hall x hx⟩) h3
          rw [ek] at n1
          have : (kvs.map fun kv => some kv.1) = (kvs.map (fun kv : Key × V => kv.1)).map some := by rw [List.map_map]; rfl
          rw [this] at n1
          exact List.Pairwise.of_map some (fun x y hne e => hne (congrArg some e)) n1
        refine ⟨l, ps, kvs, by rw [e2], hq, a2, fun p' np => ?_⟩
        rw [merge_nodup kvs [] nd, List.nil_append]
        have e0 : Ext S H (put S p' (.dct [] [])) (upd H p' (.dK [])) := Ext.newS np
        have rs2 := (rs.newD np).chgD put_same (RepVs.ext rs e0 _ _ a3) (RepVs.ext rs e0 _ _ a4)
        have e2 := e0.trans (Ext.chg (m' := .dct (ts.map (·.1)) (ts.map (·.2))) (o := .dK kvs) put_same)
        rw [put_put, upd_upd] at rs2 e2
        exact k _ _ _ _ (h4 p' (rs.fr np)) rfl rs2 e2
      · exact h.elim
    · exact h.elim
end
end PL

namespace PLN
open PySem PySem.Spec PyProof.Rows L2 PLS PL
mutual
def intK : NestedKey → Bool
  | .none => true
  | .num _ => true
  | .text _ => false
  | .tup ks => intKs ks
def intKs : List NestedKey → Bool
  | [] => true
  | k :: ks => intK k && intKs ks
end
mutual
theorem hash_int (w w' : World) : ∀ k : NestedKey, intK k = true → k.hash w = k.hash w'
  | .none, _ => by simp only [NestedKey.hash]
  | .num _, _ => by simp only [NestedKey.hash]
  | .text _, h => by cases h
  | .tup ks, h => by
    simp only [NestedKey.hash]
    rw [hashes_int w w' ks h]
theorem hashes_int (w w' : World) : ∀ ks : List NestedKey, intKs ks = true → NestedKey.hashes w ks = NestedKey.hashes w' ks
  | [], _ => by simp only [NestedKey.hashes]
  | k :: ks, h => by
    have h : (intK k && intKs ks) = true := h
    rw [Bool.and_eq_true] at h
    simp only [NestedKey.hashes]
    rw [hash_int w w' k h.1, hashes_int w w' ks h.2]
end
abbrev EntN := NestedKey × Addr × V
abbrev EntHN := NestedKey × Addr × Value
def RelE (p : EntN) (q : EntHN) : Prop := p.1 = q.1 ∧ p.2.1 = q.2.1 ∧ RelV p.2.2 q.2.2
def hEnt (w : World) (x : EntHN) : DictEntry := ⟨x.1.hash w, .ref x.2.1, x.2.2⟩
def DHat (h : Heap) (a : Addr) (xs : List EntHN) : Prop := ∃ o es ep, h.get? a = some o ∧ o.ExactDict ∧ o.data = .dict es ep ∧ (∃ w, es.toList = xs.map (hEnt w)) ∧ (xs.map (·.1)).Nodup
theorem of_dh {P : Program} {w : World} {h : Heap} {a : Addr} {xs : List EntHN} (x : h.DictOfH (nestedKind P w) a xs) : DHat h a xs :=
  let ⟨o, es, ep, ho, hc, hd, he, _, hn⟩ := x; ⟨o, es, ep, ho, hc, hd, ⟨w, he⟩, hn⟩
theorem dh_of {P : Program} {w : World} {h : Heap} {a : Addr} {xs : List EntHN} (x : DHat h a xs) (hi : ∀ p ∈ xs, intK p.1 = true) (his : ∀ p ∈ xs, (nestedKind P w).is h p.1 p.2.1) : h.DictOfH (nestedKind P w) a xs := by
  obtain ⟨o, es, ep, ho, hc, hd, ⟨w', he⟩, hn⟩ := x
  refine ⟨o, es, ep, ho, hc, hd, he.trans (List.map_congr_left fun p hp => ?_), his, hn⟩
  show DictEntry.mk (p.1.hash w') _ _ = DictEntry.mk (p.1.hash w) _ _
  rw [hash_int w' w p.1 (hi p hp)]
def NkAt (a : Addr) (L : List EntN) (h : Heap) : Prop := (a == sysModules) = false ∧ L.length ≤ sizeLine ∧ (∀ e ∈ L, intK e.1 = true) ∧ ∃ xs, Paired RelE L xs ∧ DHat h a xs
def nkO (a : Addr) (L : List EntN) : HO := .ext (NkAt a L)
theorem nkO_new {P : Program} {w : World} {H : Hp} {h : Heap} {a : Addr} {L : List EntN} (R : NkAt a L h) : ObjOk P w H h a (nkO a L) := by
  obtain ⟨_, _, _, xs, _, o, _, _, ho, _⟩ := id R
  refine ⟨R, ⟨o, ho⟩, fun h1 h2 p q => ?_⟩
  obtain ⟨p1, p2, p3, xs, p4, o, es, ep, ho, r⟩ := p
  exact ⟨p1, p2, p3, xs, p4, o, es, ep, q o ho, r⟩
theorem nk_code {a b : Addr} {q : Str} {L : List EntN} : nkO a L ≠ LamX.CodeO b q := fun e => by
  have e2 := HO.ext.inj e
  let ob : Obj := { cls := .type "code", data := .fields #[.none, .str q 0] }
  have g : ∀ d, d ≤ max a b → Heap.get? ⟨Array.replicate (max a b + 1) ob, {}⟩ d = some ob := fun d hd => by
    unfold Heap.get?
    simp [ob, Nat.lt_succ_of_le hd]
  have h := congrFun e2 (⟨Array.replicate (max a b + 1) ob, {}⟩ : Heap)
  have hs : NkAt a L (⟨Array.replicate (max a b + 1) ob, {}⟩ : Heap) := by
    rw [h]
    exact ⟨ob, _, 0, g b (Nat.le_max_right a b), rfl, rfl⟩
  obtain ⟨_, _, _, xs, _, o, es, ep, ho, _, hd, _⟩ := hs
  rw [g a (Nat.le_max_left a b)] at ho
  cases ho
  cases hd
theorem nk_ob {a : Addr} {L : List EntN} : obO (nkO a L) := .inl ⟨⟨_, rfl⟩, fun _ _ => nk_code⟩
theorem nk_obF {o : Obj} {a : Addr} {L : List EntN} : obO (.frz o (nkO a L)) := .inr (.inl ⟨_, _, rfl⟩)
def KEs (K : PySem.W.Frag) (H : Hp) (L : List EntN) : Prop := ∀ e ∈ L, KV true K H e.1 (.ref e.2.1)
theorem paired_mem {α β : Type} {F : α → β → Prop} : ∀ {l : List α} {m : List β}, Paired F l m → ∀ y ∈ m, ∃ x ∈ l, F x y
  | _, _, .nil, y, h => by cases h
  | _, _, .cons r t, y, h => by
    rcases List.mem_cons.mp h with rfl | h
    · exact ⟨_, List.mem_cons_self, r⟩
    · obtain ⟨x, hx, f⟩ := paired_mem t y h
      exact ⟨x, List.mem_cons_of_mem _ hx, f⟩
theorem paired_len {α β : Type} {F : α → β → Prop} : ∀ {l : List α} {m : List β}, Paired F l m → l.length = m.length
  | _, _, .nil => rfl
  | _, _, .cons _ t => by rw [List.length_cons, List.length_cons, paired_len t]
def putE (L : List EntN) (k : NestedKey) (b : Addr) (v : V) : List EntN := if (L.any fun e => decide (e.1 = k)) = true then L.map fun e => if e.1 = k then (e.1, e.2.1, v) else e else L ++ [(k, b, v)]
theorem atKey_any (xs : List EntHN) (k : NestedKey) : (atKey xs k).isSome = xs.any fun e => decide (e.1 = k) := by
  induction xs with
  | nil => rfl
  | cons x xs ih =>
    by_cases h : x.1 = k
    · simp [atKey, h]
    · simpa [atKey, h] using ih
theorem paired_any {L : List EntN} {xs : List EntHN} (h : Paired RelE L xs) (k : NestedKey) : (L.any fun e => decide (e.1 = k)) = xs.any fun e => decide (e.1 = k) := by
  induction h with
  | nil => rfl
  | cons r t ih => rw [List.any_cons, List.any_cons, ih, r.1]
theorem paired_map {L : List EntN} {xs : List EntHN} (h : Paired RelE L xs) (k : NestedKey) {v : V} {u : Value} (r : RelV v u) : Paired RelE (L.map fun e => if e.1 = k then (e.1, e.2.1, v) else e) (xs.map (putAt k u)) := by
  induction h with
  | nil => exact .nil
  | @cons x y L xs e t ih =>
    rw [List.map_cons, List.map_cons]
    refine .cons ?_ ih
    unfold putAt
    by_cases z : x.1 = k
    · rw [if_pos z, if_pos (e.1 ▸ z)]
      exact ⟨e.1, e.2.1, r⟩
    · rw [if_neg z, if_neg (e.1 ▸ z)]
      exact e
theorem paired_put {L : List EntN} {xs : List EntHN} (h : Paired RelE L xs) (k : NestedKey) (b : Addr) {v : V} {u : Value} (r : RelV v u) : Paired RelE (putE L k b v) (storedH xs k b u) := by
  unfold putE storedH
  rw [atKey_any, ← paired_any h k]
  split
  · exact paired_map h k r
  · exact Paired.snoc h ⟨rfl, rfl, r⟩
theorem putE_mem {L : List EntN} {k : NestedKey} {b : Addr} {v : V} : ∀ e ∈ putE L k b v, (e.1 = k ∧ e.2.1 = b) ∨ ∃ e' ∈ L, e'.1 = e.1 ∧ e'.2.1 = e.2.1 := by
  intro e he
  unfold putE at he
  split at he
  · obtain ⟨x, hx, rfl⟩ := List.mem_map.mp he
    refine .inr ⟨x, hx, ?_⟩
    split <;> exact ⟨rfl, rfl⟩
  · rcases List.mem_append.mp he with z | z
    · exact .inr ⟨e, z, rfl, rfl⟩
    · rw [List.mem_singleton.mp z]; exact .inl ⟨rfl, rfl⟩
theorem putE_len {L : List EntN} {k : NestedKey} {b : Addr} {v : V} : (putE L k b v).length ≤ L.length + 1 := by
  unfold putE
  split
  · rw [List.length_map]; omega
  · rw [List.length_append]; exact Nat.le_refl _
theorem putE_int {L : List EntN} {k : NestedKey} {b : Addr} {v : V} (h : ∀ e ∈ L, intK e.1 = true) (hk : intK k = true) : ∀ e ∈ putE L k b v, intK e.1 = true := fun e he => by
  rcases putE_mem e he with ⟨z, _⟩ | ⟨x, hx, z, _⟩
  · rw [z]; exact hk
  · rw [← z]; exact h x hx
def mgE (L M : List EntN) : List EntN := M.foldl (fun L e => putE L e.1 e.2.1 e.2.2) L
theorem paired_mg : ∀ {M : List EntN} {ys : List EntHN}, Paired RelE M ys → ∀ {L : List EntN} {xs : List EntHN}, Paired RelE L xs → Paired RelE (mgE L M) (storedAllH xs ys)
  | _, _, .nil, L, xs, h => h
  | _, _, .cons (a := e) (b := q) r t, L, xs, h => by
    have := paired_put h e.1 e.2.1 r.2.2
    show Paired RelE (mgE (putE L e.1 e.2.1 e.2.2) _) (storedAllH (storedH xs q.1 q.2.1 q.2.2) _)
    refine paired_mg t ?_
    rw [← r.1, ← r.2.1]
    exact this
theorem mgE_len : ∀ (M L : List EntN), (mgE L M).length ≤ L.length + M.length
  | [], L => Nat.le_refl _
  | e :: M, L => by
    have h1 := mgE_len M (putE L e.1 e.2.1 e.2.2)
    have h2 := putE_len (L := L) (k := e.1) (b := e.2.1) (v := e.2.2)
    show (mgE (putE L e.1 e.2.1 e.2.2) M).length ≤ L.length + (M.length + 1)
    omega
theorem mgE_int : ∀ (M L : List EntN), (∀ e ∈ L, intK e.1 = true) → (∀ e ∈ M, intK e.1 = true) → ∀ e ∈ mgE L M, intK e.1 = true
  | [], L, h, _ => h
  | x :: M, L, h, h' => mgE_int M _ (putE_int h (h' x List.mem_cons_self)) fun e he => h' e (List.mem_cons_of_mem _ he)
section
variable {X : Cx} {pins : List (Addr × Obj)} {σ : L2.St} {H : Hp} {s : Shared} {E : Value → Shared → Prop}
theorem KV.is {k : NestedKey} {b : Addr} (I : Inv X pins σ H s) (h : KV true X.K H k (.ref b)) : (nestedKind X.prog X.w).is s.heap k b := (h.km I (u := .ref b) rfl).nested
theorem nk_rd (I : Inv X pins σ H s) {a : Addr} {L : List EntN} (h : Rd H a (nkO a L)) (hk : KEs X.K H L) : (a == sysModules) = false ∧ L.length ≤ sizeLine ∧ (∀ e ∈ L, intK e.1 = true) ∧ ∃ xs, Paired RelE L xs ∧ s.heap.DictOfH (nestedKind X.prog X.w) a xs := by
  have R : NkAt a L s.heap := by
    rcases h with h | ⟨o, h⟩
    · exact (I.hok a _ h).1
    · exact (I.hok a _ h).2.1
  obtain ⟨h1, h2, h3, xs, h4, h5⟩ := R
  refine ⟨h1, h2, h3, xs, h4, dh_of h5 (fun p hp => ?_) fun p hp => ?_⟩
  · obtain ⟨e, he, r⟩ := paired_mem h4 p hp
    rw [← r.1]; exact h3 e he
  · obtain ⟨e, he, r⟩ := paired_mem h4 p hp
    rw [← r.1, ← r.2.1]
    exact KV.is I (hk e he)
theorem nk_put {a b : Addr} {L : List EntN} {k : NestedKey} {v : V} {u : Value} {h' : Heap} {t' : Nat} {xs : List EntHN} (I : Inv X pins σ H s) (h : H a = some (nkO a L)) (h1 : (a == sysModules) = false) (h3 : ∀ e ∈ L, intK e.1 = true) (hi : intK k = true) (hz : L.length < sizeLine) (p : Paired RelE L xs) (r : RelV v u)
    (dd : h'.DictOfH (nestedKind X.prog X.w) a (storedH xs k b u)) (sb : Heap.SameBut a s.heap h') : Inv X pins σ (upd H a (nkO a (putE L k b v))) { s with heap := h', toks := t' } := by
  have he : ∃ q, h'.get? a = some q := let ⟨q, _, _, hq, _⟩ := dd; ⟨q, hq⟩
  refine I.write (e := a) (by rw [h]; trivial) (.inl rfl) (fun b' o hb ho => (sb.2 b' hb).trans ho) he (nkO_new ⟨h1, ?_, putE_int h3 hi, _, paired_put p k b r, of_dh dd⟩)
  have := putE_len (L := L) (k := k) (b := b) (v := v)
  omega
theorem nk_dictSet {D b : Addr} {L : List EntN} {k : NestedKey} {v : V} {u r : Value} {Q : Unit → Shared → Prop} (hu : X.A.units + 64 < cLine) (I : Inv X pins σ H s) (hD : H D = some (nkO D L)) (hk : KEs X.K H L) (hi : intK k = true) (hb : KV true X.K H k (.ref b)) (hz : L.length < sizeLine)
    (ry : RelV (.ref b) u) (rv : RelV v r) (h : ∀ s', Inv X pins σ (upd H D (nkO D (putE L k b v))) s' → Q () s') : wpAny (model X.prog X.w) X.A (dictSet D u r) Q E s := by
  obtain ⟨h1, h2, h3, xs, p, dd⟩ := nk_rd I (.inl hD) hk
  obtain rfl : u = Value.ref b := ry
  have hxl : xs.length ≤ sizeLine := by rw [← paired_len p]; exact h2
  refine wpAny_dictSet_heap (hsz := hxl) (show X.A.units + 8 < cLine by omega) (KV.is I hb) dd fun h' dd' sb => h _ ?_
  exact nk_put I hD h1 h3 hi hz p rv dd' sb
theorem nk_setItem {D b : Addr} {L : List EntN} {k : NestedKey} {v : V} {r : Value} {Q : Unit → Shared → Prop} (hu : X.A.units + 64 < cLine) (I : Inv X pins σ H s) (hD : H D = some (nkO D L)) (hk : KEs X.K H L) (hi : intK k = true) (hb : KV true X.K H k (.ref b)) (hz : L.length < sizeLine)
    (rv : RelV v r) (h : ∀ s', Inv X pins σ (upd H D (nkO D (putE L k b v))) s' → Q () s') : wpAny (model X.prog X.w) X.A (setItem (.ref D) (.ref b) r) Q E s := by
  obtain ⟨h1, h2, h3, xs, p, dd⟩ := nk_rd I (.inl hD) hk
  have hxl : xs.length ≤ sizeLine := by rw [← paired_len p]; exact h2
  refine wpAny_setItem_heap (hsz := hxl) (show X.A.units + 1 + 8 < cLine by omega) (KV.is I hb) dd fun h' dd' sb => h _ ?_
  exact nk_put I hD h1 h3 hi hz p rv dd' sb
def hasE (L : List EntN) (k : NestedKey) : Bool := L.any fun e => decide (e.1 = k)
theorem nk_in {a b : Addr} {L : List EntN} {k : NestedKey} {Q : Value → Shared → Prop} (hu : X.A.units + 64 < cLine) (I : Inv X pins σ H s) (h : Rd H a (nkO a L)) (hk : KEs X.K H L) (hb : KV true X.K H k (.ref b)) (q : ∀ s', Inv X pins σ H s' → Q (.bool (hasE L k)) s') :
    wpAny (model X.prog X.w) X.A (compareOp .In (.ref b) (.ref a)) Q E s := by
  obtain ⟨h1, h2, h3, xs, p, dd⟩ := nk_rd I h hk
  refine wpAny_in_heap (show X.A.units + 1 + 8 < cLine by omega) (KV.is I hb) h1 dd ?_
  rw [atKey_any, ← paired_any p k]
  exact q _ (I.tok _)
def getE (L : List EntN) (k : NestedKey) : Option V := (L.find? fun e => decide (e.1 = k)).map (·.2.2)
theorem paired_getE {L : List EntN} {xs : List EntHN} (h : Paired RelE L xs) (k : NestedKey) : (getE L k = none ∧ atKey xs k = none) ∨ ∃ v p, getE L k = some v ∧ atKey xs k = some p ∧ RelV v p.2 := by
  induction h with
  | nil => exact .inl ⟨rfl, rfl⟩
  | @cons x y L xs e t ih =>
    by_cases z : x.1 = k
    · refine .inr ⟨x.2.2, y.2, by simp [getE, z], by simp [atKey, ← e.1, z], e.2.2⟩
    · rcases ih with ⟨i1, i2⟩ | ⟨v, p, i1, i2, i3⟩
      · exact .inl ⟨by simpa [getE, z] using i1, by simpa [atKey, ← e.1, z] using i2⟩
      · exact .inr ⟨v, p, by simpa [getE, z] using i1, by simpa [atKey, ← e.1, z] using i2, i3⟩
theorem nk_getItem {a b : Addr} {L : List EntN} {k : NestedKey} {v : V} {Q : Value → Shared → Prop} (hu : X.A.units + 64 < cLine) (I : Inv X pins σ H s) (h : Rd H a (nkO a L)) (hk : KEs X.K H L) (hb : KV true X.K H k (.ref b)) (hv : getE L k = some v) (q : ∀ s' u, Inv X pins σ H s' → RelV v u → Q u s') :
    wpAny (model X.prog X.w) X.A (getItem (.ref a) (.ref b)) Q E s := by
  obtain ⟨h1, h2, h3, xs, p, dd⟩ := nk_rd I h hk
  rcases paired_getE p k with ⟨i1, _⟩ | ⟨v', y, i1, i2, i3⟩
  · rw [hv] at i1; cases i1
  · rw [hv] at i1; cases i1
    exact wpAny_getItem_heap (show X.A.units + 1 + 8 < cLine by omega) (KV.is I hb) dd i2 (q _ _ (I.tok _) i3)
theorem nk_update {a o : Addr} {L M : List EntN} {Q : Value → Shared → Prop} (hu : X.A.units + 64 < cLine) (I : Inv X pins σ H s) (hao : a ≠ o) (ha : H a = some (nkO a L)) (ho : Rd H o (nkO o M)) (kL : KEs X.K H L) (kM : KEs X.K H M) (ne : L ≠ []) (hz : L.length + M.length ≤ sizeLine)
    (q : ∀ s', Inv X pins σ (upd H a (nkO a (mgE L M))) s' → Q .none s') : wpAny (model X.prog X.w) X.A (call (.builtin "dict.update") [.ref a, .ref o]) Q E s := by
  obtain ⟨h1, h2, h3, xs, p, dd⟩ := nk_rd I (.inl ha) kL
  obtain ⟨g1, g2, g3, ys, r, ee⟩ := nk_rd I ho kM
  refine call_update_dictH (show X.A.units + 1 + 8 < cLine by omega) hao g1 dd ee (.inl fun z => ne ?_) (by rw [← paired_len p, ← paired_len r]; exact hz) fun h' d1 d2 sb => q _ ?_
  · have := paired_len p
    rw [z] at this
    exact List.length_eq_zero_iff.mp this
  · have he : ∃ q, h'.get? a = some q := let ⟨q, _, _, hq, _⟩ := d1; ⟨q, hq⟩
    exact I.write (e := a) (t' := s.toks) (by rw [ha]; trivial) (.inl rfl) (fun b' o hb ho => (sb.2 b' hb).trans ho) he (nkO_new ⟨h1, Nat.le_trans (mgE_len M L) hz, mgE_int M L h3 g3, _, paired_mg r p, of_dh d1⟩)
theorem nk_empty (w : World) (h : Heap) (hb : sysModules < h.objs.size) : NkAt h.objs.size [] (h.push { cls := .type "dict", data := .dict #[] }) :=
  ⟨by rw [beq_eq_false_iff_ne]; exact Nat.ne_of_gt hb, Nat.zero_le _, (fun e he => by cases he), [], .nil, _, #[], 0, Heap.get?_push_size _ rfl, ⟨rfl, rfl, rfl⟩, rfl, ⟨w, rfl⟩, List.nodup_nil⟩
end
end PLN

namespace PLN
open PySem PySem.Spec PyProof.Rows L2 PLS PL
def PutN (K : PySem.W.Frag) (D : Addr) (y z : V) (H : Hp) (Nx : Hp → Prop) : Prop := ∃ (L : List EntN) (k : NestedKey) (b : Addr), y = .ref b ∧ H D = some (nkO D L) ∧ KEs K H L ∧ intK k = true ∧ KV true K H k (.ref b) ∧ L.length < sizeLine ∧ Nx (upd H D (nkO D (putE L k b z)))
section
variable {X : Cx}
def tDcN (K : PySem.W.Frag) (wi : TI) (g : TG) (tt : TT) (tk tv : TE) (vs : List Nat) : TE := fun σ H Q => wi σ H fun J H1 => ∀ D, H1 D = none → ∃ W : Nat → Nat → Hp → Prop, (∃ m, W 0 m (upd H1 D (nkO D []))) ∧ ∀ i m H, W i m H →
  (J.stop i H ∧ Q (.ref D) H) ∨ (J.go i H ∧ ∃ Nx : Hp → Prop, (∀ H', Nx H' → ∃ m', m' < m ∧ W (i + 1) m' H') ∧ ∀ x H', J.yld i H x H' → g x (wipe σ vs) H' fun σ2 H2 => wipe σ2 vs = wipe σ vs ∧ tt σ2 H2 fun b H3 =>
    if b = true then tk σ2 H3 fun y H4 => tv σ2 H4 fun z H5 => PutN K D y z H5 Nx else Nx H3)
theorem dcN_core {pins : List (Addr × Obj)} {s : Shared} {σ : L2.St} {H : Hp} {Q : VK} {kx vx tg iter : Expr} {ifs : List Expr} {scope : Scope} {own : List (Str × Nat)} {pos pos' : Pos} {wi : TI} {g : TG} {tt : TT} {tk tv : TE} {use : Option (Value → Sem Unit)} {Qf : Value → Shared → Prop}
    (hc : X.calm = true) (hN : X.N.Nodup) (I : Inv X pins σ H s) (hi : PI X tg iter wi) (ok : BlkOk X.N X.env.scope scope own)
    (hg : ∀ (s : Shared) (H : Hp) (C : Addr) (cl : List (Str × Addr)) (fp : List Addr), PG (X.blk s H scope (compEnvC scope cl C X.env) fp) tg g) (ht : ∀ (s : Shared) (H : Hp) (C : Addr) (cl : List (Str × Addr)) (fp : List Addr), PTs (X.blk s H scope (compEnvC scope cl C X.env) fp) ifs tt)
    (hk : ∀ (s : Shared) (H : Hp) (C : Addr) (cl : List (Str × Addr)) (fp : List Addr), PE (X.blk s H scope (compEnvC scope cl C X.env) fp) kx tk)
    (he : ∀ (s : Shared) (H : Hp) (C : Addr) (cl : List (Str × Addr)) (fp : List Addr), PE (X.blk s H scope (compEnvC scope cl C X.env) fp) vx tv) (hs : ∀ x, foldedSetIterable iter X.env x = pure x)
    (hu : X.A.units + 64 < cLine) (h : tDcN X.K wi g tt tk tv (own.map (·.2)) σ H Q)
    (hRR : ∀ D C s' m H', Inv X pins σ H' s' → Q (.ref D) H' → s'.heap.Ns C m → FpOk X pins H' C → compPost (model X.prog X.w) X.A X.xe use Qf (.ref D) C (.ok .next) s') :
    wpAny (model X.prog X.w) X.A (comprehension (.DictComp kx vx [⟨tg, iter, ifs, 0⟩] scope pos) scope X.env pos' newDict false (eval iter X.env) use) Qf X.xe s := by
  have hfree : ∀ y ∈ scope.names, y.2 = .free → ∃ c, X.env.cells.lookup y.1 = some c := fun y hy e => by
    rcases ok.free y hy e with k | k
    · exact I.ok.has _ (.inl k)
    · exact I.ok.has _ (.inr k)
  refine wpAny_comprehension_free (use := use) rfl hs (closure_ok hfree) ok.kind (fun y hy e => by rw [ok.uniq y hy, e])
    (thn (hi.run pins s σ H _ I h) fun xv s1 hx => thn hx fun itv s2 h2 => ?_)
  obtain ⟨it, fp, tn, J, H2, e, I2, T, st2, f2, q⟩ := h2
  subst e
  refine wpAny_newObj_type (newEnv_comp ?_)
  generalize hD : s2.heap.objs.size = D
  have hDn : H2 D = none := I2.hok.fresh (Nat.le_of_eq hD)
  obtain ⟨W, ⟨m0, w0⟩, turn⟩ := q D hDn
  -- the new list
  generalize hs3 : ({ s2 with heap := s2.heap.push { cls := .type "dict", data := .dict #[] } } : Shared) = s3
  have I3 : Inv X pins σ (upd H2 D (nkO D [])) s3 := by
    rw [← hs3]
    refine I2.laid (t' := s2.toks) (fun b o e => Heap.get?_push_of_some _ e) (Nat.le_of_eq hD) ?_
    rw [← hD]
    exact nkO_new (nk_empty X.w s2.heap I2.big)
  have h3 : s3.heap = s2.heap.push { cls := .type "dict", data := .dict #[] } := by rw [← hs3]
  have sz : ∀ b ∈ fp, b < s2.heap.objs.size := fun b hb => by
    obtain ⟨o, e, _⟩ := T.obj _ _ st2 b hb
    exact Heap.lt_size e
  have f3 : ∀ b ∈ fp, FpOk X pins (upd H2 D (nkO D [])) b ∧ b < s3.heap.objs.size := fun b hb => by
    have hlt := sz b hb
    refine ⟨⟨?_, (f2 b hb).2⟩, by rw [h3, Heap.size_push]; exact Nat.lt_succ_of_lt hlt⟩
    rw [upd_ne (by rw [← hD]; exact Nat.ne_of_lt hlt)]
    exact (f2 b hb).1
  have st3 : tn 0 s3.heap := T.keep _ _ _ st2 fun b _ o e => by rw [h3]; exact Heap.get?_push_of_some _ e
  have I4 := block_start I3 ok hN f3
  have pg := hg s3 (upd H2 D (nkO D [])) s3.heap.objs.size (cellsFrom (s3.heap.objs.size + 1) scope.names (cloFrom X.env.cells scope.names [])) fp
  have pt := ht s3 (upd H2 D (nkO D [])) s3.heap.objs.size (cellsFrom (s3.heap.objs.size + 1) scope.names (cloFrom X.env.cells scope.names [])) fp
  have pk := hk s3 (upd H2 D (nkO D [])) s3.heap.objs.size (cellsFrom (s3.heap.objs.size + 1) scope.names (cloFrom X.env.cells scope.names [])) fp
  have pe := he s3 (upd H2 D (nkO D [])) s3.heap.objs.size (cellsFrom (s3.heap.objs.size + 1) scope.names (cloFrom X.env.cells scope.names [])) fp
  show codeAny _ _ (.compStart (.DictComp kx vx [⟨tg, iter, ifs, 0⟩] scope pos) 0 (.ref it) (.ref D) (compEnvC scope (cellsFrom (s3.heap.objs.size + 1) scope.names (cloFrom X.env.cells scope.names [])) s3.heap.objs.size X.env)) (compPost (model X.prog X.w) X.A X.xe use Qf (.ref D) s3.heap.objs.size) { s3 with heap := pushCells (s3.heap.push { cls := .type "dict", data := .dict #[] }) scope.names }
  have nfp : ∀ b ∈ fp, (upd H2 D (nkO D [])) b = none := fun b hb => (f3 b hb).1.1
  generalize hce : compEnvC scope (cellsFrom (s3.heap.objs.size + 1) scope.names (cloFrom X.env.cells scope.names [])) s3.heap.objs.size X.env = ce at I4 pg pt pk pe ⊢
  have cL : ce.locals = s3.heap.objs.size := by subst hce; rfl
  generalize hH3 : upd H2 D (nkO D []) = H3 at I3 I4 pg pt pk pe w0 nfp f3
  generalize hs4 : ({ s3 with heap := pushCells (s3.heap.push { cls := .type "dict", data := .dict #[] }) scope.names } : Shared) = s4 at I4 ⊢
  have st4 : tn 0 s4.heap := T.keep _ _ _ st3 fun b _ o e => by rw [← hs4]; exact pushCells_keeps _ _ _ _ (Heap.get?_push_of_some _ e)
  have stat : ∀ {σ' : L2.St} {H' : Hp} {s' : Shared}, Inv (X.blk s3 H3 scope ce fp) [] σ' H' s' → (∀ b ∈ fp, H' b = none) → ∀ b ∈ fp, FpOk (X.blk s3 H3 scope ce fp) [] H' b := fun {σ' H' s'} I' hn b hb =>
    ⟨hn b hb, (I'.ok.exf b hb).1, I'.ok.exfs b hb, .inl hb, fun x c e => (I'.ok.exf b hb).2 x c e, fun p hp => absurd (show p ∈ ([] : List (Addr × Obj)) ++ [] from hp) (by simp)⟩
  have loop : codeAny (model X.prog X.w) X.A (.compLoop (.DictComp kx vx [⟨tg, iter, ifs, 0⟩] scope pos) 0 (.ref it) (.ref D) ce) (compPost (model X.prog X.w) X.A X.xe use Qf (.ref D) s3.heap.objs.size) s4 := by
    refine compLoop_anyD (fun n s' => ∃ i H', Inv (X.blk s3 H3 scope ce fp) [] (wipe σ (own.map (·.2))) H' s' ∧ tn i s'.heap ∧ (∀ b ∈ fp, H' b = none) ∧ W i n H') ?_ m0 ⟨0, H3, I4, st4, nfp, w0⟩
    rintro n s5 ⟨i, H5, I5, st5, n5, w5⟩
    rcases turn i n H5 w5 with ⟨stop, qq⟩ | ⟨go, Nx, hNx, step⟩
    · have td := T.done (X.blk s3 H3 scope ce fp) rfl rfl rfl hc i [] s5 _ H5 (fun _ _ => False) I5 (stat I5 n5) st5 stop
      refine thnF td fun r s6 ⟨hr, I6⟩ => ?_
      subst hr
      -- back in the def's context
      have I7 : Inv X pins σ H5 s6 := I3.call' (ch := fp) I6.os I6.base I6.hok I6.bare fun b hb => ⟨(f3 b hb).1.2.2.2.1, (f3 b hb).1.2.1, (f3 b hb).1.2.2.2.2.1, (f3 b hb).1.2.2.2.2.2⟩
      have nC : H5 s3.heap.objs.size = none := by
        have z : H5 ce.locals = none := I6.free
        rw [cL] at z
        exact z
      obtain ⟨m, hn, _⟩ := I6.loc
      have hn : s6.heap.Ns ce.locals m := hn
      rw [cL] at hn
      exact hRR D s3.heap.objs.size s6 m H5 I7 qq hn (I3.fpOk (Nat.le_refl _) nC)
    · have ti := T.item (X.blk s3 H3 scope ce fp) rfl rfl rfl hc i [] s5 _ H5 (fun _ _ => False) I5 (stat I5 n5) st5 go
      refine thnF ti fun r s6 ⟨u, hr, h6⟩ => ?_
      subst hr
      refine thnF h6 fun _ s7 ⟨x, H7, I7, r7, y7, st7, n7⟩ => ?_
      have I7' := I7.pinned (stat I7 n7) (T.obj _ _ st7)
      refine thnF (pg.run _ s7 _ H7 x u _ I7' r7 (step x H7 y7)) fun _ s8 ⟨σ8, H8, I8, hw8, q8⟩ => ?_
      refine thnF (pt.run _ s8 σ8 H8 _ I8 q8) fun b s9 ⟨H9, I9, q9⟩ => ?_
      -- the turn's end
      have fin : ∀ {s' : Shared} {H' : Hp}, Inv (X.blk s3 H3 scope ce fp) ([] ++ pinsAt fp s7.heap) σ8 H' s' → Nx H' → ∃ m, m < n ∧ ∃ i H', Inv (X.blk s3 H3 scope ce fp) [] (wipe σ (own.map (·.2))) H' s' ∧ tn i s'.heap ∧ (∀ b ∈ fp, H' b = none) ∧ W i m H' := fun {s' H'} I' nx => by
        obtain ⟨m', hm, w'⟩ := hNx H' nx
        have pin' : ∀ b ∈ fp, ∀ o, s7.heap.get? b = some o → s'.heap.get? b = some o ∧ H' b = none := fun b hb o e =>
          let z := I'.pin (b, o) (List.mem_append_right _ (List.mem_append_right _ (mem_pinsAt hb e)))
          ⟨z.1, z.2.1⟩
        have hl : (wipe σ (own.map (·.2))).length = σ8.length := by rw [← hw8, wipe_length]
        refine ⟨m', hm, i + 1, H', (I'.unpinned (pins := [])).weak hl (fun j v e => ?_), T.keep _ _ _ st7 fun b hb o e => (pin' b hb o e).1, fun b hb => ?_, w'⟩
        · rw [← hw8] at e
          exact (wipe_some e).1
        · obtain ⟨o, e, _⟩ := T.obj _ _ st7 b hb
          exact (pin' b hb o e).2
      cases b with
      | false =>
        simp only [Bool.false_eq_true, if_false] at q9 ⊢
        exact fin I9 q9
      | true =>
        simp only [if_true] at q9 ⊢
        refine thnF (pk.run _ s9 σ8 H9 _ I9 q9) fun z s10 ⟨yk, H10, I10, r10, q10⟩ => ?_
        refine thnF (pe.run _ s10 σ8 H10 _ I10 q10) fun z2 s11 ⟨yv, H11, I11, r11, L, k, b, ek, hD11, kes, hik, hkb, hz11, nx⟩ => ?_
        subst ek
        exact nk_dictSet (X := X.blk s3 H3 scope ce fp) hu I11 hD11 kes hik hkb hz11 r10 r11 fun s12 I12 => fin I12 nx
  exact codeAny_compStart_dict loop (T.self X.A 0 _ _ _ st4 loop)
end
theorem compTurn2_outD (kx vx t0 i0 t1 i1 : Expr) (ifs0 ifs1 : List Expr) (scope : Scope) (pos : Pos) (it : Value) (D : Addr) (env : Env) :
    compTurn (.DictComp kx vx [⟨t0, i0, ifs0, 0⟩, ⟨t1, i1, ifs1, 0⟩] scope pos) 0 it (.ref D) env = (do
      standAt i0.pos
      match ← pyNext it with
      | none => pure (.done .next)
      | some v =>
        letOwnedTupleGo t0 it v
        assign t0 env v
        let mut ok := true
        for c in ifs0 do
          if ok then ok ← isTrue c env (eval c env)
        if ok then
          let x ← eval i1 env
          standAt i1.pos
          let x ← foldedSetIterable i1 env x
          let _ ← runOwn (.compStart (.DictComp kx vx [⟨t0, i0, ifs0, 0⟩, ⟨t1, i1, ifs1, 0⟩] scope pos) 1 (← holding [x] (pyIter x)) (.ref D) env) env
        again (.compLoop (.DictComp kx vx [⟨t0, i0, ifs0, 0⟩, ⟨t1, i1, ifs1, 0⟩] scope pos) 0 it (.ref D) env)) := by rfl
theorem compTurn2_inD (kx vx t0 i0 t1 i1 : Expr) (ifs0 ifs1 : List Expr) (scope : Scope) (pos : Pos) (it : Value) (D : Addr) (env : Env) :
    compTurn (.DictComp kx vx [⟨t0, i0, ifs0, 0⟩, ⟨t1, i1, ifs1, 0⟩] scope pos) 1 it (.ref D) env = (do
      standAt i1.pos
      match ← pyNext it with
      | none => pure (.done .next)
      | some v =>
        letOwnedTupleGo t1 it v
        assign t1 env v
        let mut ok := true
        for c in ifs1 do
          if ok then ok ← isTrue c env (eval c env)
        if ok then
          (do
            let kv ← eval kx env
            let vv ← holding [kv] (eval vx env)
            standAt { kx.pos with endLine := vx.pos.endLine, endCol := vx.pos.endCol }
            holding [kv, vv] (dictSet D kv vv))
        again (.compLoop (.DictComp kx vx [⟨t0, i0, ifs0, 0⟩, ⟨t1, i1, ifs1, 0⟩] scope pos) 1 it (.ref D) env)) := by rfl

section
variable {prog : Program} {w : World} {A : Around} {R : Result → Shared → Prop} {s : Shared} {kx vx t0 i0 t1 i1 : Expr} {ifs0 ifs1 : List Expr} {scope : Scope} {pos : Pos} {it : Value} {D : Addr} {env : Env}
theorem compLoop2_outD (hs : ∀ x, foldedSetIterable i1 env x = pure x) (I : Nat → Shared → Prop)
    (turn : ∀ n s, I n s → wpAny (model prog w) A (pyNext it) (fun r s₁ => match r with
      | none => R (.ok .next) s₁
      | some v => wpAny (model prog w) A (letOwnedTupleGo t0 it v) (fun _ s₁' => wpAny (model prog w) A (assign t0 env v) (fun _ s₂ =>
          wpAny (model prog w) A (forIn ifs0 true fun c r => if r = true then do let ok ← isTrue c env (eval c env); pure (ForInStep.yield ok) else pure (ForInStep.yield r)) (fun ok s₃ =>
            if ok = true then wpAny (model prog w) A (eval i1 env) (fun x s₄ => wpAny (model prog w) A (pyIter x) (fun it1 s₅ =>
              codeAny (model prog w) A (.compStart (.DictComp kx vx [⟨t0, i0, ifs0, 0⟩, ⟨t1, i1, ifs1, 0⟩] scope pos) 1 it1 (.ref D) env) (fun r s' => match r with
                | .ok _ => ∃ m, m < n ∧ I m s'
                | .error _ => False) s₅) (notedBy (model prog w) A env fun e s' => R (.error e) s') s₄) (notedBy (model prog w) A env fun e s' => R (.error e) s') s₃
            else ∃ m, m < n ∧ I m s₃) (notedBy (model prog w) A env fun e s' => R (.error e) s') s₂) (notedBy (model prog w) A env fun e s' => R (.error e) s') s₁') (notedBy (model prog w) A env fun e s' => R (.error e) s') s₁) (notedBy (model prog w) A env fun e s' => R (.error e) s') s)
    (n : Nat) (h : I n s) :
    codeAny (model prog w) A (.compLoop (.DictComp kx vx [⟨t0, i0, ifs0, 0⟩, ⟨t1, i1, ifs1, 0⟩] scope pos) 0 it (.ref D) env) R s := by
  refine codeAny_loop rfl I (fun n s hI => ?_) n h
  show wpAny _ A ((compTurn (.DictComp kx vx [⟨t0, i0, ifs0, 0⟩, ⟨t1, i1, ifs1, 0⟩] scope pos) 0 it (.ref D) env).onRaise (fun x => do noteFrame x env; theTreesLotGoes x)) _ _ s
  refine wpAny_noted ?_
  rw [compTurn2_outD]
  refine wpAny_bind (wpAny_standAt (wpAny_bind (wpAny_mono (turn n s hI) (fun r s₁ h₁ => ?_) fun _ _ h' => h')))
  cases r with
  | none => exact wpAny_pure h₁
  | some v =>
    refine wpAny_bind (wpAny_mono h₁ (fun _ s₁' h₁' => ?_) fun _ _ h' => h')
    refine wpAny_bind (wpAny_mono h₁' (fun _ s₂ h₂ => wpAny_bind (wpAny_mono h₂ (fun ok s₃ h₃ => ?_) fun _ _ h' => h')) fun _ _ h' => h')
    cases ok with
    | false => exact wpAny_pure ⟨rfl, h₃⟩
    | true =>
      refine wpAny_bind (wpAny_mono h₃ (fun x s₄ h₄ => ?_) fun _ _ h' => h')
      refine wpAny_bind (wpAny_standAt (wpAny_bind (wpAny_of_eq (hs x) (wpAny_bind (wpAny_holding (wpAny_mono h₄ (fun it1 s₅ h₅ => ?_) fun _ _ h' => h'))))))
      refine wpAny_bind (wpAny_runOwn ?_)
      rw [Around.mark_none]
      refine codeAny_mono h₅ fun r s' hr => ?_
      cases r with
      | ok f =>
        first
          | exact wpAny_pure ⟨rfl, hr⟩
          | exact wpAny_bind (wpAny_pure (wpAny_pure ⟨rfl, hr⟩))
      | error e => exact hr.elim
theorem compLoop2_inD (I : Nat → Shared → Prop)
    (turn : ∀ n s, I n s → wpAny (model prog w) A (pyNext it) (fun r s₁ => match r with
      | none => R (.ok .next) s₁
      | some v => wpAny (model prog w) A (letOwnedTupleGo t1 it v) (fun _ s₁' => wpAny (model prog w) A (assign t1 env v) (fun _ s₂ =>
          wpAny (model prog w) A (forIn ifs1 true fun c r => if r = true then do let ok ← isTrue c env (eval c env); pure (ForInStep.yield ok) else pure (ForInStep.yield r)) (fun ok s₃ =>
            if ok = true then wpAny (model prog w) A (eval kx env) (fun kv s₄ => wpAny (model prog w) A (eval vx env) (fun vv s₅ =>
              wpAny (model prog w) A (dictSet D kv vv) (fun _ s₆ => ∃ m, m < n ∧ I m s₆) (notedBy (model prog w) A env fun e s' => R (.error e) s') s₅) (notedBy (model prog w) A env fun e s' => R (.error e) s') s₄) (notedBy (model prog w) A env fun e s' => R (.error e) s') s₃
            else ∃ m, m < n ∧ I m s₃) (notedBy (model prog w) A env fun e s' => R (.error e) s') s₂) (notedBy (model prog w) A env fun e s' => R (.error e) s') s₁') (notedBy (model prog w) A env fun e s' => R (.error e) s') s₁) (notedBy (model prog w) A env fun e s' => R (.error e) s') s)
    (n : Nat) (h : I n s) :
    codeAny (model prog w) A (.compLoop (.DictComp kx vx [⟨t0, i0, ifs0, 0⟩, ⟨t1, i1, ifs1, 0⟩] scope pos) 1 it (.ref D) env) R s := by
  refine codeAny_loop rfl I (fun n s hI => ?_) n h
  show wpAny _ A ((compTurn (.DictComp kx vx [⟨t0, i0, ifs0, 0⟩, ⟨t1, i1, ifs1, 0⟩] scope pos) 1 it (.ref D) env).onRaise (fun x => do noteFrame x env; theTreesLotGoes x)) _ _ s
  refine wpAny_noted ?_
  rw [compTurn2_inD]
  refine wpAny_bind (wpAny_standAt (wpAny_bind (wpAny_mono (turn n s hI) (fun r s₁ h₁ => ?_) fun _ _ h' => h')))
  cases r with
  | none => exact wpAny_pure h₁
  | some v =>
    refine wpAny_bind (wpAny_mono h₁ (fun _ s₁' h₁' => ?_) fun _ _ h' => h')
    refine wpAny_bind (wpAny_mono h₁' (fun _ s₂ h₂ => wpAny_bind (wpAny_mono h₂ (fun ok s₃ h₃ => ?_) fun _ _ h' => h')) fun _ _ h' => h')
    cases ok with
    | false => exact wpAny_pure ⟨rfl, h₃⟩
    | true =>
      exact wpAny_bind (wpAny_bind (wpAny_mono h₃ (fun kv s₄ h₄ => wpAny_bind (wpAny_holding (wpAny_mono h₄ (fun vv s₅ h₅ => wpAny_bind (wpAny_standAt (wpAny_holding (wpAny_mono h₅ (fun _ s₆ h₆ => wpAny_pure ⟨rfl, h₆⟩) fun _ _ h' => h')))) fun _ _ h' => h'))) fun _ _ h' => h'))
theorem compStart1_okD (h0 : codeAny (model prog w) A (.compLoop (.DictComp kx vx [⟨t0, i0, ifs0, 0⟩, ⟨t1, i1, ifs1, 0⟩] scope pos) 1 it (.ref D) env) R s)
    (h : wpAny (model prog w) A (pyIter it) (fun it' s' => codeAny (model prog w) A (.compLoop (.DictComp kx vx [⟨t0, i0, ifs0, 0⟩, ⟨t1, i1, ifs1, 0⟩] scope pos) 1 it' (.ref D) env) R s')
      (notedBy (model prog w) A env fun x s' => R (.error x) s') s) :
    codeAny (model prog w) A (.compStart (.DictComp kx vx [⟨t0, i0, ifs0, 0⟩, ⟨t1, i1, ifs1, 0⟩] scope pos) 1 it (.ref D) env) R s := by
  refine codeAny_of_tree ?_
  show wpAny _ _ ((compStart (.DictComp kx vx [⟨t0, i0, ifs0, 0⟩, ⟨t1, i1, ifs1, 0⟩] scope pos) 1 it (.ref D) env).onRaise (fun x => do noteFrame x env; standAt theWindowsPlace)) _ _ s
  refine wpAny_notedAt ?_
  unfold compStart
  show wpAny _ _ (ask >>= _) _ _ s
  refine wpAny_bind (wpAny_askSetting (wpAny_ite ?_))
  split
  · first
      | exact wpAny_bind (wpAny_pure (wpAny_pure (And.intro rfl h0)))
      | exact wpAny_pure (And.intro rfl h0)
  · first
      | exact wpAny_bind (wpAny_rule (wpAny_bind (wpAny_standAt (wpAny_bind (wpAny_mono h (fun it' s' h' => wpAny_pure (And.intro rfl h')) fun _ _ x => x)))))
      | (refine wpAny_bind (wpAny_rule ?_); show wpAny _ _ (standAt i1.pos >>= _) _ _ s; exact wpAny_bind (wpAny_standAt (wpAny_bind (wpAny_mono h (fun it' s' h' => wpAny_pure (And.intro rfl h')) fun _ _ x => x))))
end

section
variable {X : Cx}
def tDcN2 (K : PySem.W.Frag) (wi : TI) (g : TG) (tt : TT) (wi1 : TI) (g1 : TG) (tt1 : TT) (tk tv : TE) (vs vs1 : List Nat) : TE := fun σ H Q => wi σ H fun J H1 => ∀ D, H1 D = none → ∃ W : Nat → Nat → Hp → Prop, (∃ m, W 0 m (upd H1 D (nkO D []))) ∧ ∀ i m H, W i m H →
  (J.stop i H ∧ Q (.ref D) H) ∨ (J.go i H ∧ ∃ Nx : Hp → Prop, (∀ H', Nx H' → ∃ m', m' < m ∧ W (i + 1) m' H') ∧ ∀ x H', J.yld i H x H' → g x (wipe σ vs) H' fun σ2 H2 => wipe σ2 vs = wipe σ vs ∧ tt σ2 H2 fun b H3 =>
    if b = true then wi1 σ2 H3 fun J1 H4 => ∃ W1 : Nat → Nat → Hp → Prop, (∃ m, W1 0 m H4) ∧ ∀ j k H, W1 j k H →
      (J1.stop j H ∧ Nx H) ∨ (J1.go j H ∧ ∃ Nx1 : Hp → Prop, (∀ H', Nx1 H' → ∃ k', k' < k ∧ W1 (j + 1) k' H') ∧ ∀ x H', J1.yld j H x H' → g1 x (wipe σ2 vs1) H' fun σ3 H5 => wipe σ3 vs1 = wipe σ2 vs1 ∧ tt1 σ3 H5 fun b H6 =>
        if b = true then tk σ3 H6 fun y H7 => tv σ3 H7 fun z H8 => PutN K D y z H8 Nx1 else Nx1 H6)
    else Nx H3)
theorem dcN2_core {pins : List (Addr × Obj)} {s : Shared} {σ : L2.St} {H : Hp} {Q : VK} {kx vx tg iter tg1 iter1 : Expr} {ifs ifs1 : List Expr} {scope : Scope} {own : List (Str × Nat)} {vs1 : List Nat} {pos pos' : Pos} {wi wi1 : TI} {g g1 : TG} {tt tt1 : TT} {tk tv : TE} {use : Option (Value → Sem Unit)} {Qf : Value → Shared → Prop}
    (hc : X.calm = true) (hN : X.N.Nodup) (I : Inv X pins σ H s) (hi : PI X tg iter wi) (ok : BlkOk X.N X.env.scope scope own) (hv : ∀ i ∈ vs1, i ∈ own.map (·.2))
    (hg : ∀ (s : Shared) (H : Hp) (C : Addr) (cl : List (Str × Addr)) (fp : List Addr), PG (X.blk s H scope (compEnvC scope cl C X.env) fp) tg g) (ht : ∀ (s : Shared) (H : Hp) (C : Addr) (cl : List (Str × Addr)) (fp : List Addr), PTs (X.blk s H scope (compEnvC scope cl C X.env) fp) ifs tt)
    (hk : ∀ (s : Shared) (H : Hp) (C : Addr) (cl : List (Str × Addr)) (fp : List Addr), PE (X.blk s H scope (compEnvC scope cl C X.env) fp) kx tk)
    (he : ∀ (s : Shared) (H : Hp) (C : Addr) (cl : List (Str × Addr)) (fp : List Addr), PE (X.blk s H scope (compEnvC scope cl C X.env) fp) vx tv) (hs : ∀ x, foldedSetIterable iter X.env x = pure x)
    (hi1 : ∀ (s : Shared) (H : Hp) (C : Addr) (cl : List (Str × Addr)) (fp : List Addr), PI (X.blk s H scope (compEnvC scope cl C X.env) fp) tg1 iter1 wi1)
    (hg1 : ∀ (s : Shared) (H : Hp) (C : Addr) (cl : List (Str × Addr)) (fp : List Addr), PG (X.blk s H scope (compEnvC scope cl C X.env) fp) tg1 g1)
    (ht1 : ∀ (s : Shared) (H : Hp) (C : Addr) (cl : List (Str × Addr)) (fp : List Addr), PTs (X.blk s H scope (compEnvC scope cl C X.env) fp) ifs1 tt1)
    (hs1 : ∀ env x, foldedSetIterable iter1 env x = pure x)
    (hu : X.A.units + 64 < cLine) (h : tDcN2 X.K wi g tt wi1 g1 tt1 tk tv (own.map (·.2)) vs1 σ H Q)
    (hRR : ∀ D C s' m H', Inv X pins σ H' s' → Q (.ref D) H' → s'.heap.Ns C m → FpOk X pins H' C → compPost (model X.prog X.w) X.A X.xe use Qf (.ref D) C (.ok .next) s') :
    wpAny (model X.prog X.w) X.A (comprehension (.DictComp kx vx [⟨tg, iter, ifs, 0⟩, ⟨tg1, iter1, ifs1, 0⟩] scope pos) scope X.env pos' newDict false (eval iter X.env) use) Qf X.xe s := by
  have hfree : ∀ y ∈ scope.names, y.2 = .free → ∃ c, X.env.cells.lookup y.1 = some c := fun y hy e => by
    rcases ok.free y hy e with k | k
    · exact I.ok.has _ (.inl k)
    · exact I.ok.has _ (.inr k)
  refine wpAny_comprehension_free (use := use) rfl hs (closure_ok hfree) ok.kind (fun y hy e => by rw [ok.uniq y hy, e])
    (thn (hi.run pins s σ H _ I h) fun xv s1 hx => thn hx fun itv s2 h2 => ?_)
  obtain ⟨it, fp, tn, J, H2, e, I2, T, st2, f2, q⟩ := h2
  subst e
  refine wpAny_newObj_type (newEnv_comp ?_)
  generalize hD : s2.heap.objs.size = D
  have hDn : H2 D = none := I2.hok.fresh (Nat.le_of_eq hD)
  obtain ⟨W, ⟨m0, w0⟩, turn⟩ := q D hDn
  -- the new list
  generalize hs3 : ({ s2 with heap := s2.heap.push { cls := .type "dict", data := .dict #[] } } : Shared) = s3
  have I3 : Inv X pins σ (upd H2 D (nkO D [])) s3 := by
    rw [← hs3]
    refine I2.laid (t' := s2.toks) (fun b o e => Heap.get?_push_of_some _ e) (Nat.le_of_eq hD) ?_
    rw [← hD]
    exact nkO_new (nk_empty X.w s2.heap I2.big)
  have h3 : s3.heap = s2.heap.push { cls := .type "dict", data := .dict #[] } := by rw [← hs3]
  have sz : ∀ b ∈ fp, b < s2.heap.objs.size := fun b hb => by
    obtain ⟨o, e, _⟩ := T.obj _ _ st2 b hb
    exact Heap.lt_size e
  have f3 : ∀ b ∈ fp, FpOk X pins (upd H2 D (nkO D [])) b ∧ b < s3.heap.objs.size := fun b hb => by
    have hlt := sz b hb
    refine ⟨⟨?_, (f2 b hb).2⟩, by rw [h3, Heap.size_push]; exact Nat.lt_succ_of_lt hlt⟩
    rw [upd_ne (by rw [← hD]; exact Nat.ne_of_lt hlt)]
    exact (f2 b hb).1
  have st3 : tn 0 s3.heap := T.keep _ _ _ st2 fun b _ o e => by rw [h3]; exact Heap.get?_push_of_some _ e
  have I4 := block_start I3 ok hN f3
  have pg := hg s3 (upd H2 D (nkO D [])) s3.heap.objs.size (cellsFrom (s3.heap.objs.size + 1) scope.names (cloFrom X.env.cells scope.names [])) fp
  have pt := ht s3 (upd H2 D (nkO D [])) s3.heap.objs.size (cellsFrom (s3.heap.objs.size + 1) scope.names (cloFrom X.env.cells scope.names [])) fp
  have pe := he s3 (upd H2 D (nkO D [])) s3.heap.objs.size (cellsFrom (s3.heap.objs.size + 1) scope.names (cloFrom X.env.cells scope.names [])) fp
  have pk := hk s3 (upd H2 D (nkO D [])) s3.heap.objs.size (cellsFrom (s3.heap.objs.size + 1) scope.names (cloFrom X.env.cells scope.names [])) fp
  have pi1 := hi1 s3 (upd H2 D (nkO D [])) s3.heap.objs.size (cellsFrom (s3.heap.objs.size + 1) scope.names (cloFrom X.env.cells scope.names [])) fp
  have pg1 := hg1 s3 (upd H2 D (nkO D [])) s3.heap.objs.size (cellsFrom (s3.heap.objs.size + 1) scope.names (cloFrom X.env.cells scope.names [])) fp
  have pt1 := ht1 s3 (upd H2 D (nkO D [])) s3.heap.objs.size (cellsFrom (s3.heap.objs.size + 1) scope.names (cloFrom X.env.cells scope.names [])) fp
  show codeAny _ _ (.compStart (.DictComp kx vx [⟨tg, iter, ifs, 0⟩, ⟨tg1, iter1, ifs1, 0⟩] scope pos) 0 (.ref it) (.ref D) (compEnvC scope (cellsFrom (s3.heap.objs.size + 1) scope.names (cloFrom X.env.cells scope.names [])) s3.heap.objs.size X.env)) (compPost (model X.prog X.w) X.A X.xe use Qf (.ref D) s3.heap.objs.size) { s3 with heap := pushCells (s3.heap.push { cls := .type "dict", data := .dict #[] }) scope.names }
  have nfp : ∀ b ∈ fp, (upd H2 D (nkO D [])) b = none := fun b hb => (f3 b hb).1.1
  generalize hce : compEnvC scope (cellsFrom (s3.heap.objs.size + 1) scope.names (cloFrom X.env.cells scope.names [])) s3.heap.objs.size X.env = ce at I4 pg pt pk pe pi1 pg1 pt1 ⊢
  have cL : ce.locals = s3.heap.objs.size := by subst hce; rfl
  generalize hH3 : upd H2 D (nkO D []) = H3 at I3 I4 pg pt pk pe pi1 pg1 pt1 w0 nfp f3
  generalize hs4 : ({ s3 with heap := pushCells (s3.heap.push { cls := .type "dict", data := .dict #[] }) scope.names } : Shared) = s4 at I4 ⊢
  have st4 : tn 0 s4.heap := T.keep _ _ _ st3 fun b _ o e => by rw [← hs4]; exact pushCells_keeps _ _ _ _ (Heap.get?_push_of_some _ e)
  have stat : ∀ {σ' : L2.St} {H' : Hp} {s' : Shared}, Inv (X.blk s3 H3 scope ce fp) [] σ' H' s' → (∀ b ∈ fp, H' b = none) → ∀ b ∈ fp, FpOk (X.blk s3 H3 scope ce fp) [] H' b := fun {σ' H' s'} I' hn b hb =>
    ⟨hn b hb, (I'.ok.exf b hb).1, I'.ok.exfs b hb, .inl hb, fun x c e => (I'.ok.exf b hb).2 x c e, fun p hp => absurd (show p ∈ ([] : List (Addr × Obj)) ++ [] from hp) (by simp)⟩
  have loop : codeAny (model X.prog X.w) X.A (.compLoop (.DictComp kx vx [⟨tg, iter, ifs, 0⟩, ⟨tg1, iter1, ifs1, 0⟩] scope pos) 0 (.ref it) (.ref D) ce) (compPost (model X.prog X.w) X.A X.xe use Qf (.ref D) s3.heap.objs.size) s4 := by
    refine compLoop2_outD (hs1 ce) (fun n s' => ∃ i H', Inv (X.blk s3 H3 scope ce fp) [] (wipe σ (own.map (·.2))) H' s' ∧ tn i s'.heap ∧ (∀ b ∈ fp, H' b = none) ∧ W i n H') ?_ m0 ⟨0, H3, I4, st4, nfp, w0⟩
    rintro n s5 ⟨i, H5, I5, st5, n5, w5⟩
    rcases turn i n H5 w5 with ⟨stop, qq⟩ | ⟨go, Nx, hNx, step⟩
    · have td := T.done (X.blk s3 H3 scope ce fp) rfl rfl rfl hc i [] s5 _ H5 (fun _ _ => False) I5 (stat I5 n5) st5 stop
      refine thnF td fun r s6 ⟨hr, I6⟩ => ?_
      subst hr
      -- back in the def's context
      have I7 : Inv X pins σ H5 s6 := I3.call' (ch := fp) I6.os I6.base I6.hok I6.bare fun b hb => ⟨(f3 b hb).1.2.2.2.1, (f3 b hb).1.2.1, (f3 b hb).1.2.2.2.2.1, (f3 b hb).1.2.2.2.2.2⟩
      have nC : H5 s3.heap.objs.size = none := by
        have z : H5 ce.locals = none := I6.free
        rw [cL] at z
        exact z
      obtain ⟨m, hn, _⟩ := I6.loc
      have hn : s6.heap.Ns ce.locals m := hn
      rw [cL] at hn
      exact hRR D s3.heap.objs.size s6 m H5 I7 qq hn (I3.fpOk (Nat.le_refl _) nC)
    · have ti := T.item (X.blk s3 H3 scope ce fp) rfl rfl rfl hc i [] s5 _ H5 (fun _ _ => False) I5 (stat I5 n5) st5 go
      refine thnF ti fun r s6 ⟨u, hr, h6⟩ => ?_
      subst hr
      refine thnF h6 fun _ s7 ⟨x, H7, I7, r7, y7, st7, n7⟩ => ?_
      have I7' := I7.pinned (stat I7 n7) (T.obj _ _ st7)
      refine thnF (pg.run _ s7 _ H7 x u _ I7' r7 (step x H7 y7)) fun _ s8 ⟨σ8, H8, I8, hw8, q8⟩ => ?_
      refine thnF (pt.run _ s8 σ8 H8 _ I8 q8) fun b s9 ⟨H9, I9, q9⟩ => ?_
      -- the turn's end, from any slots that know what the block knew at its start
      have fin : ∀ {σ9 : L2.St} {s' : Shared} {H' : Hp}, Inv (X.blk s3 H3 scope ce fp) ([] ++ pinsAt fp s7.heap) σ9 H' s' → (wipe σ (own.map (·.2))).length = σ9.length → (∀ (j : Nat) v, (wipe σ (own.map (·.2)))[j]? = some (some v) → σ9[j]? = some (some v)) → Nx H' →
          ∃ m, m < n ∧ ∃ i H', Inv (X.blk s3 H3 scope ce fp) [] (wipe σ (own.map (·.2))) H' s' ∧ tn i s'.heap ∧ (∀ b ∈ fp, H' b = none) ∧ W i m H' := fun {σ9 s' H'} I' hl hk nx => by
        obtain ⟨m', hm, w'⟩ := hNx H' nx
        have pin' : ∀ b ∈ fp, ∀ o, s7.heap.get? b = some o → s'.heap.get? b = some o ∧ H' b = none := fun b hb o e =>
          let z := I'.pin (b, o) (List.mem_append_right _ (List.mem_append_right _ (mem_pinsAt hb e)))
          ⟨z.1, z.2.1⟩
        refine ⟨m', hm, i + 1, H', (I'.unpinned (pins := [])).weak hl hk, T.keep _ _ _ st7 fun b hb o e => (pin' b hb o e).1, fun b hb => ?_, w'⟩
        obtain ⟨o, e, _⟩ := T.obj _ _ st7 b hb
        exact (pin' b hb o e).2
      have hl8 : (wipe σ (own.map (·.2))).length = σ8.length := by rw [← hw8, wipe_length]
      have hk8 : ∀ (j : Nat) v, (wipe σ (own.map (·.2)))[j]? = some (some v) → σ8[j]? = some (some v) := fun j v e => by
        rw [← hw8] at e
        exact (wipe_some e).1
      have hk9 : ∀ (j : Nat) v, (wipe σ (own.map (·.2)))[j]? = some (some v) → (wipe σ8 vs1)[j]? = some (some v) := fun j v e => by
        rw [← hw8] at e
        obtain ⟨e1, e2⟩ := wipe_some e
        rw [wipe_out fun z => e2 (hv j z)]
        exact e1
      cases b with
      | false =>
        simp only [Bool.false_eq_true, if_false] at q9 ⊢
        exact fin I9 hl8 hk8 q9
      | true =>
        simp only [if_true] at q9 ⊢
        refine thnF (pi1.run _ s9 σ8 H9 _ I9 q9) fun xv s10 hx => thnF hx fun itv s11 h11 => ?_
        obtain ⟨it1, fp1, tn1, J1, H11, e1, I11, T1, st11, f11, W1, ⟨m1, w1⟩, turn1⟩ := h11
        subst e1
        -- the inner loop
        have stat1 : ∀ {H' : Hp}, (∀ b ∈ fp1, H' b = none) → ∀ b ∈ fp1, FpOk (X.blk s3 H3 scope ce fp) ([] ++ pinsAt fp s7.heap) H' b := fun hn b hb => ⟨hn b hb, (f11 b hb).2⟩
        have loop1 : codeAny (model X.prog X.w) X.A (.compLoop (.DictComp kx vx [⟨tg, iter, ifs, 0⟩, ⟨tg1, iter1, ifs1, 0⟩] scope pos) 1 (.ref it1) (.ref D) ce)
            (fun r s' => match r with
              | .ok _ => ∃ m, m < n ∧ ∃ i H', Inv (X.blk s3 H3 scope ce fp) [] (wipe σ (own.map (·.2))) H' s' ∧ tn i s'.heap ∧ (∀ b ∈ fp, H' b = none) ∧ W i m H'
              | .error _ => False) s11 := by
          refine compLoop2_inD (fun k s' => ∃ j H', Inv (X.blk s3 H3 scope ce fp) ([] ++ pinsAt fp s7.heap) (wipe σ8 vs1) H' s' ∧ tn1 j s'.heap ∧ (∀ b ∈ fp1, H' b = none) ∧ W1 j k H') ?_ m1 ⟨0, H11, I11.weak (wipe_length _ _) (fun j v e => (wipe_some e).1), st11, fun b hb => (f11 b hb).1, w1⟩
          rintro k s12 ⟨j, H12, I12, st12, n12, w12⟩
          rcases turn1 j k H12 w12 with ⟨stop1, nx1⟩ | ⟨go1, Nx1, hNx1, step1⟩
          · refine thnF (T1.done (X.blk s3 H3 scope ce fp) rfl rfl rfl hc j _ s12 (wipe σ8 vs1) H12 (fun _ _ => False) I12 (stat1 n12) st12 stop1) fun r s13 ⟨hr, I13⟩ => ?_
            subst hr
            exact fin I13 (hl8.trans (wipe_length σ8 vs1).symm) hk9 nx1
          · refine thnF (T1.item (X.blk s3 H3 scope ce fp) rfl rfl rfl hc j _ s12 (wipe σ8 vs1) H12 (fun _ _ => False) I12 (stat1 n12) st12 go1) fun r s13 ⟨u1, hr, h13⟩ => ?_
            subst hr
            refine thnF h13 fun _ s14 ⟨x1, H14, I14, r14, y14, st14, n14⟩ => ?_
            have I14' := I14.pinned (stat1 n14) (T1.obj _ _ st14)
            refine thnF (pg1.run _ s14 (wipe σ8 vs1) H14 x1 u1 _ I14' r14 (step1 x1 H14 y14)) fun _ s15 ⟨σ15, H15, I15, hw15, q15⟩ => ?_
            refine thnF (pt1.run _ s15 σ15 H15 _ I15 q15) fun b1 s16 ⟨H16, I16, q16⟩ => ?_
            have fin1 : ∀ {s' : Shared} {H' : Hp}, Inv (X.blk s3 H3 scope ce fp) (([] ++ pinsAt fp s7.heap) ++ pinsAt fp1 s14.heap) σ15 H' s' → Nx1 H' → ∃ m, m < k ∧ ∃ j H', Inv (X.blk s3 H3 scope ce fp) ([] ++ pinsAt fp s7.heap) (wipe σ8 vs1) H' s' ∧ tn1 j s'.heap ∧ (∀ b ∈ fp1, H' b = none) ∧ W1 j m H' := fun {s' H'} I' nx => by
              obtain ⟨m', hm, w'⟩ := hNx1 H' nx
              have pin' : ∀ b ∈ fp1, ∀ o, s14.heap.get? b = some o → s'.heap.get? b = some o ∧ H' b = none := fun b hb o e =>
                let z := I'.pin (b, o) (List.mem_append_right _ (List.mem_append_right _ (mem_pinsAt hb e)))
                ⟨z.1, z.2.1⟩
              refine ⟨m', hm, j + 1, H', I'.unpinned.weak (by rw [← hw15, wipe_length]) (fun j v e => by rw [← hw15] at e; exact (wipe_some e).1), T1.keep _ _ _ st14 fun b hb o e => (pin' b hb o e).1, fun b hb => ?_, w'⟩
              obtain ⟨o, e, _⟩ := T1.obj _ _ st14 b hb
              exact (pin' b hb o e).2
            cases b1 with
            | false =>
              simp only [Bool.false_eq_true, if_false] at q16 ⊢
              exact fin1 I16 q16
            | true =>
              simp only [if_true] at q16 ⊢
              refine thnF (pk.run _ s16 σ15 H16 _ I16 q16) fun z s17 ⟨yk, H17, I17, r17, q17⟩ => ?_
              refine thnF (pe.run _ s17 σ15 H17 _ I17 q17) fun z2 s18 ⟨yv, H18, I18, r18, L, k, b, ek, hD18, kes, hik, hkb, hz18, nx⟩ => ?_
              subst ek
              exact nk_dictSet (X := X.blk s3 H3 scope ce fp) hu I18 hD18 kes hik hkb hz18 r17 r18 fun s19 I19 => fin1 I19 nx
        exact compStart1_okD loop1 (T1.self X.A 0 _ _ _ st11 loop1)
  exact codeAny_compStart_dict loop (T.self X.A 0 _ _ _ st4 loop)
theorem pe_dcN2 {kx vx tg iter tg1 iter1 : Expr} {ifs ifs1 : List Expr} {scope : Scope} {own : List (Str × Nat)} {vs1 : List Nat} {pos : Pos} {wi wi1 : TI} {g g1 : TG} {tt tt1 : TT} {tk tv : TE} (hc : X.calm = true) (hN : X.N.Nodup) (hi : PI X tg iter wi) (ok : BlkOk X.N X.env.scope scope own) (hv : ∀ i ∈ vs1, i ∈ own.map (·.2))
    (hg : ∀ (s : Shared) (H : Hp) (C : Addr) (cl : List (Str × Addr)) (fp : List Addr), PG (X.blk s H scope (compEnvC scope cl C X.env) fp) tg g) (ht : ∀ (s : Shared) (H : Hp) (C : Addr) (cl : List (Str × Addr)) (fp : List Addr), PTs (X.blk s H scope (compEnvC scope cl C X.env) fp) ifs tt)
    (hi1 : ∀ (s : Shared) (H : Hp) (C : Addr) (cl : List (Str × Addr)) (fp : List Addr), PI (X.blk s H scope (compEnvC scope cl C X.env) fp) tg1 iter1 wi1)
    (hg1 : ∀ (s : Shared) (H : Hp) (C : Addr) (cl : List (Str × Addr)) (fp : List Addr), PG (X.blk s H scope (compEnvC scope cl C X.env) fp) tg1 g1) (ht1 : ∀ (s : Shared) (H : Hp) (C : Addr) (cl : List (Str × Addr)) (fp : List Addr), PTs (X.blk s H scope (compEnvC scope cl C X.env) fp) ifs1 tt1)
    (hk : ∀ (s : Shared) (H : Hp) (C : Addr) (cl : List (Str × Addr)) (fp : List Addr), PE (X.blk s H scope (compEnvC scope cl C X.env) fp) kx tk)
    (he : ∀ (s : Shared) (H : Hp) (C : Addr) (cl : List (Str × Addr)) (fp : List Addr), PE (X.blk s H scope (compEnvC scope cl C X.env) fp) vx tv) (hu : X.A.units + 64 < cLine) (hs : ∀ x, foldedSetIterable iter X.env x = pure x := by intro _; rfl) (hs1 : ∀ env x, foldedSetIterable iter1 env x = pure x := by intro _ _; rfl) :
    PE X (.DictComp kx vx [⟨tg, iter, ifs, 0⟩, ⟨tg1, iter1, ifs1, 0⟩] scope pos) (tDcN2 X.K wi g tt wi1 g1 tt1 tk tv (own.map (·.2)) vs1) := by
  refine ⟨fun pins s σ H Q I h => ?_⟩
  rw [arm_eval_DictComp]
  refine dcN2_core hc hN I hi ok hv hg ht hk he hs hi1 hg1 ht1 hs1 hu h fun D C s' m H' I' q hn f => ⟨m, hn, fun h'' sb => ?_⟩
  obtain ⟨f0, f1, f2, f3, f4, f5⟩ := f
  exact ⟨.ref D, H', I'.turned (t' := s'.toks) (fun b o hb e => (sb.2 b hb).trans e) f0 f1 f3 f4 f5, rfl, q⟩
end
end PLN

namespace PL
open PySem PySem.Spec PyProof.Rows L2 PLS PLN
def adr : V → Addr
  | .ref a => a
  | _ => 0
def ents : List Pv → List V → List V → List EntN
  | k :: ks, v :: vs, u :: us => (toK k, adr v, u) :: ents ks vs us
  | _, _, _ => []
def nkM (D : Addr) (ks xs : List Pv) : Mo := .ob (fun vs us => nkO D (ents ks vs us)) ks xs
def keyN (p : Pv) : Prop := kOk true p ∧ intK (toK p) = true
def keysN (ks : List Pv) : Prop := ∀ z ∈ ks, keyN z
def hasN (ks : List Pv) (k : Pv) : Bool := ks.any fun z => decide (toK z = toK k)
def putN (ks xs : List Pv) (k v : Pv) : List Pv × List Pv := if hasN ks k = true then (ks, (ks.zip xs).map fun p => if toK p.1 = toK k then v else p.2) else (ks ++ [k], xs ++ [v])
def mgN : List Pv → List Pv → List Pv → List Pv → List Pv × List Pv
  | ks, xs, k :: ms, v :: ys => mgN (putN ks xs k v).1 (putN ks xs k v).2 ms ys
  | ks, xs, _, _ => (ks, xs)
theorem ents_len : ∀ {ks : List Pv} {vs us : List V}, vs.length = ks.length → us.length = ks.length → (ents ks vs us).length = ks.length
  | [], _, _, _, _ => rfl
  | k :: ks, v :: vs, u :: us, h1, h2 => by
    show (ents ks vs us).length + 1 = ks.length + 1
    rw [ents_len (by simpa using h1) (by simpa using h2)]
theorem ents_app : ∀ {ks : List Pv} {vs us : List V} {k : Pv} {v u : V}, vs.length = ks.length → us.length = ks.length → ents (ks ++ [k]) (vs ++ [v]) (us ++ [u]) = ents ks vs us ++ [(toK k, adr v, u)]
  | [], [], [], _, _, _, _, _ => rfl
  | k :: ks, v :: vs, u :: us, _, _, _, h1, h2 => by
    show _ :: ents (ks ++ _) (vs ++ _) (us ++ _) = _
    rw [ents_app (by simpa using h1) (by simpa using h2)]
    rfl
theorem ents_any : ∀ {ks : List Pv} {vs us : List V} (k : Pv), vs.length = ks.length → us.length = ks.length → ((ents ks vs us).any fun e => decide (e.1 = toK k)) = hasN ks k
  | [], _, _, _, _, _ => rfl
  | z :: ks, v :: vs, u :: us, k, h1, h2 => by
    have := ents_any (ks := ks) (vs := vs) (us := us) k (by simpa using h1) (by simpa using h2)
    unfold hasN at *
    show (_ || _) = _
    rw [this, List.any_cons]
theorem kes_of {K : PySem.W.Frag} {H : Hp} {S : Sto} : ∀ {ks : List Pv} {vs us : List V}, keysN ks → RepVs K H S ks vs → KEs K H (ents ks vs us)
  | [], _, _, _, _ => fun e he => by cases he
  | k :: ks, _, us, hk, ⟨v, r, e, h1, h2⟩ => by
    subst e
    cases us with
    | nil => exact fun e he => by cases he
    | cons u us =>
      intro e he
      rcases List.mem_cons.mp he with rfl | he
      · have kv := (hk k List.mem_cons_self).1.kv h1
        obtain ⟨⟨a, rfl⟩, _, _⟩ := id kv
        exact kv
      · exact kes_of (fun z hz => hk z (List.mem_cons_of_mem _ hz)) h2 e he
theorem zip_repN {K : PySem.W.Frag} {H : Hp} {S : Sto} {k y : Pv} {w : V} (rv : RepV K H S y w) : ∀ {ks xs : List Pv} {vs us : List V}, RepVs K H S ks vs → RepVs K H S xs us → ks.length = xs.length →
    ∃ us', ents ks vs us' = (ents ks vs us).map (fun e => if e.1 = toK k then (e.1, e.2.1, w) else e) ∧ RepVs K H S ((ks.zip xs).map fun p => if toK p.1 = toK k then y else p.2) us'
  | [], [], _, us, h, _, _ => by
    have e : _ = [] := h
    rw [e]
    exact ⟨[], rfl, rfl⟩
  | z :: ks, x :: xs, _, _, ⟨v, vs, e, h1, h2⟩, ⟨u, us, e', h1', h2'⟩, hl => by
    subst e e'
    obtain ⟨us', i1, i2⟩ := zip_repN (k := k) rv h2 h2' (by simpa using hl)
    by_cases c : toK z = toK k
    · refine ⟨w :: us', ?_, ?_⟩
      · show _ :: ents ks vs us' = _ :: (ents ks vs us).map _
        rw [i1]
        show _ = (if toK z = toK k then _ else _) :: _
        rw [if_pos c]
      · show RepVs K H S ((if toK z = toK k then y else x) :: _) _
        rw [if_pos c]
        exact ⟨w, us', rfl, rv, i2⟩
    · refine ⟨u :: us', ?_, ?_⟩
      · show _ :: ents ks vs us' = _ :: (ents ks vs us).map _
        rw [i1]
        show _ = (if toK z = toK k then _ else _) :: _
        rw [if_neg c]
      · show RepVs K H S ((if toK z = toK k then y else x) :: _) _
        rw [if_neg c]
        exact ⟨u, us', rfl, h1', i2⟩
  | [], _ :: _, _, _, _, _, h => by cases h
  | _ :: _, [], _, _, _, _, h => by cases h
theorem put_repN {K : PySem.W.Frag} {H : Hp} {S : Sto} {ks xs : List Pv} {vs us : List V} {k y : Pv} {kv yv : V} (hk : keyN k) (ok : keysN ks) (rk : RepV K H S k kv) (ry : RepV K H S y yv) (r1 : RepVs K H S ks vs) (r2 : RepVs K H S xs us) (hl : ks.length = xs.length) :
    keysN (putN ks xs k y).1 ∧ (putN ks xs k y).1.length = (putN ks xs k y).2.length ∧ ∃ vs' us', ents (putN ks xs k y).1 vs' us' = putE (ents ks vs us) (toK k) (adr kv) yv ∧ RepVs K H S (putN ks xs k y).1 vs' ∧ RepVs K H S (putN ks xs k y).2 us' := by
  have l1 := r1.len
  have l2 := r2.len
  unfold putE
  rw [ents_any k l1 (l2.trans hl.symm)]
  unfold putN
  split
  · obtain ⟨us', i1, i2⟩ := zip_repN (k := k) ry r1 r2 hl
    exact ⟨ok, by rw [List.length_map, List.length_zip, ← hl, Nat.min_self], vs, us', i1, r1, i2⟩
  · refine ⟨fun z hz => ?_, by rw [List.length_append, List.length_append, hl]; rfl, vs ++ [kv], us ++ [yv], ents_app l1 (l2.trans hl.symm), r1.app ⟨kv, [], rfl, rk, rfl⟩, r2.app ⟨yv, [], rfl, ry, rfl⟩⟩
    rcases List.mem_append.mp hz with hz | hz
    · exact ok z hz
    · rw [List.mem_singleton.mp hz]; exact hk
theorem putN_len {ks xs : List Pv} {k y : Pv} : (putN ks xs k y).1.length ≤ ks.length + 1 := by
  unfold putN
  split
  · show ks.length ≤ _; omega
  · show (ks ++ [k]).length ≤ _
    rw [List.length_append]; exact Nat.le_refl _
theorem mg_repN {K : PySem.W.Frag} {H : Hp} {S : Sto} : ∀ {ms ys : List Pv} {ws zs : List V} {ks xs : List Pv} {vs us : List V}, keysN ms → RepVs K H S ms ws → RepVs K H S ys zs → ms.length = ys.length → keysN ks → RepVs K H S ks vs → RepVs K H S xs us → ks.length = xs.length →
    keysN (mgN ks xs ms ys).1 ∧ (mgN ks xs ms ys).1.length = (mgN ks xs ms ys).2.length ∧ ∃ vs' us', ents (mgN ks xs ms ys).1 vs' us' = mgE (ents ks vs us) (ents ms ws zs) ∧ RepVs K H S (mgN ks xs ms ys).1 vs' ∧ RepVs K H S (mgN ks xs ms ys).2 us'
  | [], [], ws, zs, ks, xs, vs, us, _, h, _, _, ok, r1, r2, hl => by
    have e : _ = [] := h
    rw [e]
    exact ⟨ok, hl, vs, us, rfl, r1, r2⟩
  | k :: ms, y :: ys, _, _, ks, xs, vs, us, hm, ⟨v, ws, e, h1, h2⟩, ⟨u, zs, e', h1', h2'⟩, hml, ok, r1, r2, hl => by
    subst e e'
    obtain ⟨p1, p2, vs', us', p3, p4, p5⟩ := put_repN (hm k List.mem_cons_self) ok h1 h1' r1 r2 hl
    obtain ⟨m1, m2, vs2, us2, m3, m4, m5⟩ := mg_repN (fun z hz => hm z (List.mem_cons_of_mem _ hz)) h2 h2' (by simpa using hml) p1 p4 p5 p2
    refine ⟨m1, m2, vs2, us2, m3.trans ?_, m4, m5⟩
    rw [p3]
    rfl
  | [], _ :: _, _, _, _, _, _, _, _, _, _, h, _, _, _, _ => by cases h
  | _ :: _, [], _, _, _, _, _, _, _, _, _, h, _, _, _, _ => by cases h
section
variable {K : PySem.W.Frag} {H : Hp} {S : Sto} {D : Addr} {ks xs : List Pv}
theorem RepS.nk (rs : RepS K H S) (h : S D = some (nkM D ks xs)) : ∃ vs us, H D = some (nkO D (ents ks vs us)) ∧ RepVs K H S ks vs ∧ RepVs K H S xs us := by
  obtain ⟨vs, us, e, _, r1, r2⟩ := rs D _ h
  exact ⟨vs, us, e, r1, r2⟩
theorem RepS.chgN {m : Mo} {vs us : List V} (rs : RepS K H S) (h : S D = some m) (r1 : RepVs K H S ks vs) (r2 : RepVs K H S xs us) : RepS K (upd H D (nkO D (ents ks vs us))) (put S D (nkM D ks xs)) := by
  have e := Ext.chg (H := H) (m' := nkM D ks xs) (o := nkO D (ents ks vs us)) h
  exact rs.chgX h ⟨vs, us, upd_same, nk_ob, RepVs.ext rs e _ _ r1, RepVs.ext rs e _ _ r2⟩
theorem RepS.newN (rs : RepS K H S) (nd : H D = none) : RepS K (upd H D (nkO D [])) (put S D (nkM D [] [])) := by
  have r := (rs.newD nd).chgN (ks := []) (xs := []) (vs := []) (us := []) put_same rfl rfl
  rw [put_put, upd_upd] at r
  exact r
end
def dcNW (gd : Sto → Prop) (t : Tg) (tt : PFB) (tk tv : PF) (ρ : Env') (D : Addr) (Q : List Pv → List Pv → Sto → Prop) : List Pv → List Pv → List Pv → Sto → Prop
  | [], ks, xs, S => gd (put S D (nkM D ks xs)) ∧ Q ks xs S
  | x :: its, ks, xs, S => gd (put S D (nkM D ks xs)) ∧ match bindT (put S D (nkM D ks xs)) t x ρ with
    | some ρ2 => tt ρ2 (put S D (nkM D ks xs)) fun c S2 =>
        cnd c (tk ρ2 S2 fun k S3 => tv ρ2 S3 fun v S4 => S4 D = some (nkM D ks xs) ∧ keyN k ∧ ks.length < sizeLine ∧ dcNW gd t tt tk tv ρ D Q its (putN ks xs k v).1 (putN ks xs k v).2 (del S4 D))
          (S2 D = some (nkM D ks xs) ∧ dcNW gd t tt tk tv ρ D Q its ks xs (del S2 D))
    | none => False
theorem dcNW_mono {gd : Sto → Prop} {t : Tg} {tt : PFB} {tk tv : PF} {ρ : Env'} {D : Addr} (h1 : ∀ ρ S Q Q', (∀ p S', Q p S' → Q' p S') → tt ρ S Q → tt ρ S Q') (h2 : ∀ ρ S Q Q', (∀ p S', Q p S' → Q' p S') → tk ρ S Q → tk ρ S Q') (h3 : ∀ ρ S Q Q', (∀ p S', Q p S' → Q' p S') → tv ρ S Q → tv ρ S Q') {Q Q' : List Pv → List Pv → Sto → Prop} (i : ∀ ks xs S', Q ks xs S' → Q' ks xs S') :
    ∀ (its ks xs : List Pv) (S : Sto), dcNW gd t tt tk tv ρ D Q its ks xs S → dcNW gd t tt tk tv ρ D Q' its ks xs S
  | [], ks, xs, S, q => ⟨q.1, i _ _ _ q.2⟩
  | x :: its, ks, xs, S, q => by
    refine ⟨q.1, ?_⟩
    have q2 := q.2
    split at q2
    · refine h1 _ _ _ _ (fun c S2 q => ?_) q2
      cases c with
      | true => exact h2 _ _ _ _ (fun k S3 q => h3 _ _ _ _ (fun v S4 q => ⟨q.1, q.2.1, q.2.2.1, dcNW_mono h1 h2 h3 i its _ _ _ q.2.2.2⟩) q) q
      | false => exact ⟨q.1, dcNW_mono h1 h2 h3 i its _ _ _ q.2⟩
    · exact q2.elim
def fDcN (fi : PFI) (t : Tg) (tt : PFB) (tk tv : PF) (vs : List Nat) : PF := fun ρ S Q => fi ρ S fun its gd S1 => ∀ D, S1 D = none → dcNW gd t tt tk tv (wipeP ρ vs) D (fun ks xs S' => Q (.ref D) (put S' D (nkM D ks xs))) its [] [] S1
section
variable {X : Cx} {S0 : Sto} {H0 : Hp} {pos : Pos}
theorem dcN_sim {fi : PFI} {t : Tg} {tt : PFB} {tk tv : PF} {vs : List Nat} {tg iter : Expr} (hi : PIt X S0 H0 tg iter fi) (hv : ∀ i ∈ slotsT t, i ∈ vs) (m1 : ∀ ρ S Q Q', (∀ p S', Q p S' → Q' p S') → tt ρ S Q → tt ρ S Q') (m2 : ∀ ρ S Q Q', (∀ p S', Q p S' → Q' p S') → tk ρ S Q → tk ρ S Q') (m3 : ∀ ρ S Q Q', (∀ p S', Q p S' → Q' p S') → tv ρ S Q → tv ρ S Q')
    {σ : L2.St} {H : Hp} {Q : VK} {ρ : Env'} {S : Sto} {F : Addr → List Pv → List Pv → Sto → Prop} (re : RepE X.K H S σ ρ) (rs : RepS X.K H S) (ex : Ext S0 H0 S H) (q : fi ρ S fun its gd S1 => ∀ D, S1 D = none → dcNW gd t tt tk tv (wipeP ρ vs) D (F D) its [] [] S1)
    (fin : ∀ D ks xs S' H', F D ks xs S' → S' D = none → RepS X.K H' (put S' D (nkM D ks xs)) → Ext S H (put S' D (nkM D ks xs)) H' → Q (.ref D) H') :
    tDcN X.K (liftI X.K S0 H0 fi) (tgR X.K t) (liftB X.K S0 H0 tt) (lift X.K S0 H0 tk) (lift X.K S0 H0 tv) vs σ H Q := by
  refine ⟨ρ, S, re, rs, ex, hi.mono _ _ _ _ (fun its gd S1 q J H1 w rs1 ex1 => ?_) q⟩
  intro D hD
  have q := q D (rs1.fr hD)
  refine ⟨fun i m H2 => i + m = its.length ∧ ∃ ks xs S2, (keysN ks ∧ ks.length = xs.length) ∧ S2 D = none ∧ RepS X.K H2 (put S2 D (nkM D ks xs)) ∧ Ext S1 H1 (put S2 D (nkM D ks xs)) H2 ∧ dcNW gd t tt tk tv (wipeP ρ vs) D (F D) (its.drop i) ks xs S2,
    ⟨its.length, by omega, [], [], S1, ⟨fun z hz => (by cases hz), rfl⟩, rs1.fr hD, rs1.newN hD, Ext.newS hD, by rw [List.drop_zero]; exact q⟩, fun i m H2 hW => ?_⟩
  obtain ⟨em, ks, xs, S2, ok, n2, rs2, ex2, q2⟩ := hW
  cases hd : its.drop i with
  | nil =>
    rw [hd] at q2
    have hil : its.length ≤ i := by
      have := congrArg List.length hd
      simp at this
      omega
    have e0 : i = its.length := by omega
    subst e0
    exact .inl ⟨w.stop _ H2 ex2 rs2 q2.1, fin D ks xs S2 H2 q2.2 n2 rs2 (ex1.trans ex2)⟩
  | cons x rest =>
    rw [hd] at q2
    have hil : i < its.length := by
      have := congrArg List.length hd
      simp at this
      omega
    have hx : its[i]? = some x := by
      have := congrArg (fun l => l[0]?) hd
      simpa using this
    have hxs : its.drop (i + 1) = rest := by
      have := congrArg (List.drop 1) hd
      simpa [Nat.add_comm] using this
    obtain ⟨hgo, hy⟩ := w.go _ H2 i x ex2 rs2 q2.1 hx
    refine .inr ⟨hgo, fun H3 => ∃ ks xs S3, (keysN ks ∧ ks.length = xs.length) ∧ S3 D = none ∧ RepS X.K H3 (put S3 D (nkM D ks xs)) ∧ Ext S1 H1 (put S3 D (nkM D ks xs)) H3 ∧ dcNW gd t tt tk tv (wipeP ρ vs) D (F D) rest ks xs S3, fun H3 ⟨ks', xs', S3, a0, a1, a2, a3, a4⟩ => ⟨m - 1, by omega, by omega, ks', xs', S3, a0, a1, a2, a3, by rw [hxs]; exact a4⟩, fun v H3 yl => ?_⟩
    obtain ⟨rv, rs3, ex3⟩ := hy v H3 yl
    have q3 := q2.2
    split at q3
    · rename_i ρ' eb
      have e13 := ex2.trans ex3
      have re3 : RepE X.K H3 (put S2 D (nkM D ks xs)) (L2.wipe σ vs) (wipeP ρ vs) := (re.ext rs (ex1.trans e13)).wipe vs
      refine tg_run rs3 t x v (L2.wipe σ vs) (wipeP ρ vs) ρ' _ rv re3 eb fun σ4 re4 w4 => ⟨by rw [w4 vs hv]; exact wipe_wipe σ vs vs fun i h => h, ?_⟩
      have e03 := (ex.trans ex1).trans e13
      refine ⟨ρ', _, re4, rs3, e03, m1 _ _ _ _ (fun c S5 q5 H5 rs5 ex5 => ?_) q3⟩
      have e15 := e13.trans ex5
      cases c with
      | true =>
        refine ⟨ρ', S5, re4.ext rs3 ex5, rs5, e03.trans ex5, m2 _ _ _ _ (fun k S6 q6 kv H6 rk rs6 ex6 => ?_) q5⟩
        have e56 := ex5.trans ex6
        refine ⟨ρ', S6, re4.ext rs3 e56, rs6, e03.trans e56, m3 _ _ _ _ (fun y S7 q7 yv H7 ry rs7 ex7 => ?_) q6⟩
        obtain ⟨h1, h2, h3, h4⟩ := q7
        obtain ⟨ws, us, hkv, r1, r2⟩ := rs7.nk h1
        have rk7 := RepV.ext rs6 ex7 k kv rk
        obtain ⟨⟨b, rfl⟩, _, _⟩ := h2.1.kv rk7
        obtain ⟨p1, p2, vs', us', p3, p4, p5⟩ := put_repN h2 ok.1 rk7 ry r1 r2 ok.2
        refine ⟨ents ks ws us, toK k, b, rfl, hkv, kes_of ok.1 r1, h2.2, h2.1.kv rk7, by rw [ents_len r1.len (r2.len.trans ok.2.symm)]; exact h3, (putN ks xs k y).1, (putN ks xs k y).2, del S7 D, ⟨p1, p2⟩, by simp, ?_, ?_, h4⟩
        · rw [put_del]
          rw [← show ents (putN ks xs k y).1 vs' us' = putE (ents ks ws us) (toK k) b yv from p3]
          exact rs7.chgN h1 p4 p5
        · rw [put_del]
          exact ((e15.trans ex6).trans ex7).trans (Ext.chg h1)
      | false =>
        obtain ⟨h1, h2⟩ := q5
        refine ⟨ks, xs, del S5 D, ok, by simp, ?_, ?_, h2⟩
        · rw [put_del, put_self h1]; exact rs5
        · rw [put_del, put_self h1]; exact e15
    · exact q3.elim
variable {kx vx tg iter : Expr} {ifs : List Expr} {scope : Scope} {fi : PFI} {t : Tg} {tt : PFB} {tk tv : PF}
end
theorem dcNW_pure {α : Type} {gd : Sto → Prop} {t : Tg} {tk tv : PF} {ρ : Env'} {D : Addr} {Q : List Pv → List Pv → Sto → Prop} {S : Sto} (g kf vf : α → Pv) (hD : S D = none) (hg : ∀ S', Has S S' → gd S') : ∀ (as : List α) (ks xs : List Pv), ks.length + as.length ≤ sizeLine →
    (∀ x ∈ as, keyN (kf x) ∧ ∀ S', Has S S' → ∃ ρ2, bindT S' t (g x) ρ = some ρ2 ∧ (∀ k : QV, k (kf x) S' → tk ρ2 S' k) ∧ ∀ k : QV, k (vf x) S' → tv ρ2 S' k) →
    Q (mgN ks xs (as.map kf) (as.map vf)).1 (mgN ks xs (as.map kf) (as.map vf)).2 S → dcNW gd t fYes tk tv ρ D Q (as.map g) ks xs S
  | [], ks, xs, _, _, q => ⟨hg _ fun b n e => by rw [put_ne (fun z => by rw [z, hD] at e; cases e)]; exact e, q⟩
  | x :: as, ks, xs, l, h, q => by
    have hh : Has S (put S D (nkM D ks xs)) := fun b n e => by rw [put_ne (fun z => by rw [z, hD] at e; cases e)]; exact e
    refine ⟨hg _ hh, ?_⟩
    obtain ⟨hk, hx⟩ := h x List.mem_cons_self
    obtain ⟨ρ2, e, h1, h2⟩ := hx (put S D (nkM D ks xs)) hh
    rw [e]
    have l' : ks.length + (as.length + 1) ≤ sizeLine := l
    refine h1 _ (h2 _ ⟨put_same, hk, by omega, ?_⟩)
    rw [del_put hD]
    refine dcNW_pure g kf vf hD hg as _ _ ?_ (fun y hy => h y (List.mem_cons_of_mem _ hy)) q
    have := putN_len (ks := ks) (xs := xs) (k := kf x) (y := vf x)
    omega
end PL

namespace PL
open PySem PySem.Spec PyProof.Rows L2 PLS PLN
def dcN2W (gd : Sto → Prop) (t : Tg) (tt : PFB) (fi1 : PFI) (t1 : Tg) (tt1 : PFB) (tk tv : PF) (ρ : Env') (vs1 : List Nat) (D : Addr) (Q : List Pv → List Pv → Sto → Prop) : List Pv → List Pv → List Pv → Sto → Prop
  | [], ks, xs, S => gd (put S D (nkM D ks xs)) ∧ Q ks xs S
  | x :: its, ks, xs, S => gd (put S D (nkM D ks xs)) ∧ match bindT (put S D (nkM D ks xs)) t x ρ with
    | some ρ2 => tt ρ2 (put S D (nkM D ks xs)) fun c S2 =>
        cnd c (fi1 ρ2 S2 fun its1 gd1 S3 => S3 D = some (nkM D ks xs) ∧ dcNW gd1 t1 tt1 tk tv (wipeP ρ2 vs1) D (fun ks' xs' S' => dcN2W gd t tt fi1 t1 tt1 tk tv ρ vs1 D Q its ks' xs' S') its1 ks xs (del S3 D))
          (S2 D = some (nkM D ks xs) ∧ dcN2W gd t tt fi1 t1 tt1 tk tv ρ vs1 D Q its ks xs (del S2 D))
    | none => False
def fDcN2 (fi : PFI) (t : Tg) (tt : PFB) (fi1 : PFI) (t1 : Tg) (tt1 : PFB) (tk tv : PF) (vs vs1 : List Nat) : PF := fun ρ S Q => fi ρ S fun its gd S1 => ∀ D, S1 D = none → dcN2W gd t tt fi1 t1 tt1 tk tv (wipeP ρ vs) vs1 D (fun ks xs S' => Q (.ref D) (put S' D (nkM D ks xs))) its [] [] S1
theorem dcN2W_mono {gd : Sto → Prop} {t : Tg} {tt : PFB} {fi1 : PFI} {t1 : Tg} {tt1 : PFB} {tk tv : PF} {ρ : Env'} {vs1 : List Nat} {D : Addr} (h1 : ∀ ρ S Q Q', (∀ p S', Q p S' → Q' p S') → tt ρ S Q → tt ρ S Q') (hi : ∀ ρ S Q Q', (∀ p g S', Q p g S' → Q' p g S') → fi1 ρ S Q → fi1 ρ S Q') (h3 : ∀ ρ S Q Q', (∀ p S', Q p S' → Q' p S') → tt1 ρ S Q → tt1 ρ S Q') (h2 : ∀ ρ S Q Q', (∀ p S', Q p S' → Q' p S') → tk ρ S Q → tk ρ S Q') (h4 : ∀ ρ S Q Q', (∀ p S', Q p S' → Q' p S') → tv ρ S Q → tv ρ S Q')
    {Q Q' : List Pv → List Pv → Sto → Prop} (i : ∀ ks xs S', Q ks xs S' → Q' ks xs S') : ∀ (its ks xs : List Pv) (S : Sto), dcN2W gd t tt fi1 t1 tt1 tk tv ρ vs1 D Q its ks xs S → dcN2W gd t tt fi1 t1 tt1 tk tv ρ vs1 D Q' its ks xs S
  | [], ks, xs, S, q => ⟨q.1, i _ _ _ q.2⟩
  | x :: its, ks, xs, S, q => by
    refine ⟨q.1, ?_⟩
    have q2 := q.2
    split at q2
    · refine h1 _ _ _ _ (fun c S2 q => ?_) q2
      cases c with
      | true => exact hi _ _ _ _ (fun its1 gd1 S3 q => ⟨q.1, dcNW_mono h3 h2 h4 (fun ks' xs' S' q => dcN2W_mono h1 hi h3 h2 h4 i its ks' xs' S' q) its1 ks xs _ q.2⟩) q
      | false => exact ⟨q.1, dcN2W_mono h1 hi h3 h2 h4 i its _ _ _ q.2⟩
    · exact q2.elim
section
variable {X : Cx} {S0 : Sto} {H0 : Hp} {a b : Expr} {fa fb : PF} {pos : Pos}
theorem dcN_loop {t : Tg} {tt : PFB} {tk tv : PF} {vs : List Nat} (hv : ∀ i ∈ slotsT t, i ∈ vs) (m1 : ∀ ρ S Q Q', (∀ p S', Q p S' → Q' p S') → tt ρ S Q → tt ρ S Q') (m2 : ∀ ρ S Q Q', (∀ p S', Q p S' → Q' p S') → tk ρ S Q → tk ρ S Q') (m4 : ∀ ρ S Q Q', (∀ p S', Q p S' → Q' p S') → tv ρ S Q → tv ρ S Q')
    {σ : L2.St} {ρ : Env'} {S1 : Sto} {H1 : Hp} {J : It} {its ks0 xs0 : List Pv} {gd : Sto → Prop} {D : Addr} {F : List Pv → List Pv → Sto → Prop} {Nx : Hp → Prop} (w : Wk X.K S1 H1 J its gd) (re : RepE X.K H1 S1 σ ρ) (rs1 : RepS X.K H1 S1) (ex : Ext S0 H0 S1 H1) (ok0 : keysN ks0 ∧ ks0.length = xs0.length) (hD : S1 D = some (nkM D ks0 xs0)) (q : dcNW gd t tt tk tv (wipeP ρ vs) D F its ks0 xs0 (del S1 D))
    (fin : ∀ ks xs S' H', keysN ks ∧ ks.length = xs.length → F ks xs S' → S' D = none → RepS X.K H' (put S' D (nkM D ks xs)) → Ext S1 H1 (put S' D (nkM D ks xs)) H' → Nx H') :
    ∃ W1 : Nat → Nat → Hp → Prop, (∃ m, W1 0 m H1) ∧ ∀ j k H, W1 j k H →
      (J.stop j H ∧ Nx H) ∨ (J.go j H ∧ ∃ Nx1 : Hp → Prop, (∀ H', Nx1 H' → ∃ k', k' < k ∧ W1 (j + 1) k' H') ∧ ∀ x H', J.yld j H x H' → tgR X.K t x (L2.wipe σ vs) H' fun σ3 H5 => L2.wipe σ3 vs = L2.wipe σ vs ∧ liftB X.K S0 H0 tt σ3 H5 fun b H6 =>
        if b = true then lift X.K S0 H0 tk σ3 H6 fun y H7 => lift X.K S0 H0 tv σ3 H7 fun z H8 => PutN X.K D y z H8 Nx1 else Nx1 H6) := by
  refine ⟨fun i m H2 => i + m = its.length ∧ ∃ ks xs S2, (keysN ks ∧ ks.length = xs.length) ∧ S2 D = none ∧ RepS X.K H2 (put S2 D (nkM D ks xs)) ∧ Ext S1 H1 (put S2 D (nkM D ks xs)) H2 ∧ dcNW gd t tt tk tv (wipeP ρ vs) D F (its.drop i) ks xs S2,
    ⟨its.length, by omega, ks0, xs0, del S1 D, ok0, by simp, by rw [put_del, put_self hD]; exact rs1, by rw [put_del, put_self hD]; exact Ext.refl _ _, by rw [List.drop_zero]; exact q⟩, fun i m H2 hW => ?_⟩
  obtain ⟨em, ks, xs, S2, ok, n2, rs2, ex2, q2⟩ := hW
  cases hd : its.drop i with
  | nil =>
    rw [hd] at q2
    have hil : its.length ≤ i := by
      have := congrArg List.length hd
      simp at this
      omega
    have e0 : i = its.length := by omega
    subst e0
    exact .inl ⟨w.stop _ H2 ex2 rs2 q2.1, fin ks xs S2 H2 ok q2.2 n2 rs2 ex2⟩
  | cons x rest =>
    rw [hd] at q2
    have hil : i < its.length := by
      have := congrArg List.length hd
      simp at this
      omega
    have hx : its[i]? = some x := by
      have := congrArg (fun l => l[0]?) hd
      simpa using this
    have hxs : its.drop (i + 1) = rest := by
      have := congrArg (List.drop 1) hd
      simpa [Nat.add_comm] using this
    obtain ⟨hgo, hy⟩ := w.go _ H2 i x ex2 rs2 q2.1 hx
    refine .inr ⟨hgo, fun H3 => ∃ ks xs S3, (keysN ks ∧ ks.length = xs.length) ∧ S3 D = none ∧ RepS X.K H3 (put S3 D (nkM D ks xs)) ∧ Ext S1 H1 (put S3 D (nkM D ks xs)) H3 ∧ dcNW gd t tt tk tv (wipeP ρ vs) D F rest ks xs S3, fun H3 ⟨ks', xs', S3, a0, a1, a2, a3, a4⟩ => ⟨m - 1, by omega, by omega, ks', xs', S3, a0, a1, a2, a3, by rw [hxs]; exact a4⟩, fun v H3 yl => ?_⟩
    obtain ⟨rv, rs3, ex3⟩ := hy v H3 yl
    have q3 := q2.2
    split at q3
    · rename_i ρ' eb
      have e13 := ex2.trans ex3
      have re3 : RepE X.K H3 (put S2 D (nkM D ks xs)) (L2.wipe σ vs) (wipeP ρ vs) := (re.ext rs1 e13).wipe vs
      refine tg_run rs3 t x v (L2.wipe σ vs) (wipeP ρ vs) ρ' _ rv re3 eb fun σ4 re4 w4 => ⟨by rw [w4 vs hv]; exact wipe_wipe σ vs vs fun i h => h, ?_⟩
      have e03 := ex.trans e13
      refine ⟨ρ', _, re4, rs3, e03, m1 _ _ _ _ (fun c S5 q5 H5 rs5 ex5 => ?_) q3⟩
      have e15 := e13.trans ex5
      cases c with
      | true =>
        refine ⟨ρ', S5, re4.ext rs3 ex5, rs5, e03.trans ex5, m2 _ _ _ _ (fun k S6 q6 kv H6 rk rs6 ex6 => ?_) q5⟩
        have e56 := ex5.trans ex6
        refine ⟨ρ', S6, re4.ext rs3 e56, rs6, e03.trans e56, m4 _ _ _ _ (fun y S7 q7 yv H7 ry rs7 ex7 => ?_) q6⟩
        obtain ⟨h1, h2, h3, h4⟩ := q7
        obtain ⟨ws, us, hkv, r1, r2⟩ := rs7.nk h1
        have rk7 := RepV.ext rs6 ex7 k kv rk
        obtain ⟨⟨b, rfl⟩, _, _⟩ := h2.1.kv rk7
        obtain ⟨p1, p2, vs', us', p3, p4, p5⟩ := put_repN h2 ok.1 rk7 ry r1 r2 ok.2
        refine ⟨ents ks ws us, toK k, b, rfl, hkv, kes_of ok.1 r1, h2.2, h2.1.kv rk7, by rw [ents_len r1.len (r2.len.trans ok.2.symm)]; exact h3, (putN ks xs k y).1, (putN ks xs k y).2, del S7 D, ⟨p1, p2⟩, by simp, ?_, ?_, h4⟩
        · rw [put_del]
          rw [← show ents (putN ks xs k y).1 vs' us' = putE (ents ks ws us) (toK k) b yv from p3]
          exact rs7.chgN h1 p4 p5
        · rw [put_del]
          exact ((e15.trans ex6).trans ex7).trans (Ext.chg h1)
      | false =>
        obtain ⟨h1, h2⟩ := q5
        refine ⟨ks, xs, del S5 D, ok, by simp, ?_, ?_, h2⟩
        · rw [put_del, put_self h1]; exact rs5
        · rw [put_del, put_self h1]; exact e15
    · exact q3.elim
theorem dcN2_sim {fi fi1 : PFI} {t t1 : Tg} {tt tt1 : PFB} {tk tv : PF} {vs vs1 : List Nat} {tg iter : Expr} (hi : PIt X S0 H0 tg iter fi) (hv : ∀ i ∈ slotsT t, i ∈ vs) (hv1 : ∀ i ∈ slotsT t1, i ∈ vs1) (m1 : ∀ ρ S Q Q', (∀ p S', Q p S' → Q' p S') → tt ρ S Q → tt ρ S Q') (mi : ∀ ρ S Q Q', (∀ p g S', Q p g S' → Q' p g S') → fi1 ρ S Q → fi1 ρ S Q')
    (m3 : ∀ ρ S Q Q', (∀ p S', Q p S' → Q' p S') → tt1 ρ S Q → tt1 ρ S Q') (m2 : ∀ ρ S Q Q', (∀ p S', Q p S' → Q' p S') → tk ρ S Q → tk ρ S Q') (m4 : ∀ ρ S Q Q', (∀ p S', Q p S' → Q' p S') → tv ρ S Q → tv ρ S Q')
    {σ : L2.St} {H : Hp} {Q : VK} {ρ : Env'} {S : Sto} {F : Addr → List Pv → List Pv → Sto → Prop} (re : RepE X.K H S σ ρ) (rs : RepS X.K H S) (ex : Ext S0 H0 S H) (q : fi ρ S fun its gd S1 => ∀ D, S1 D = none → dcN2W gd t tt fi1 t1 tt1 tk tv (wipeP ρ vs) vs1 D (F D) its [] [] S1)
    (fin : ∀ D ks xs S' H', F D ks xs S' → S' D = none → RepS X.K H' (put S' D (nkM D ks xs)) → Ext S H (put S' D (nkM D ks xs)) H' → Q (.ref D) H') :
    tDcN2 X.K (liftI X.K S0 H0 fi) (tgR X.K t) (liftB X.K S0 H0 tt) (liftI X.K S0 H0 fi1) (tgR X.K t1) (liftB X.K S0 H0 tt1) (lift X.K S0 H0 tk) (lift X.K S0 H0 tv) vs vs1 σ H Q := by
  refine ⟨ρ, S, re, rs, ex, hi.mono _ _ _ _ (fun its gd S1 q J H1 w rs1 ex1 => ?_) q⟩
  intro D hD
  have q := q D (rs1.fr hD)
  refine ⟨fun i m H2 => i + m = its.length ∧ ∃ ks xs S2, (keysN ks ∧ ks.length = xs.length) ∧ S2 D = none ∧ RepS X.K H2 (put S2 D (nkM D ks xs)) ∧ Ext S1 H1 (put S2 D (nkM D ks xs)) H2 ∧ dcN2W gd t tt fi1 t1 tt1 tk tv (wipeP ρ vs) vs1 D (F D) (its.drop i) ks xs S2,
    ⟨its.length, by omega, [], [], S1, ⟨fun z hz => (by cases hz), rfl⟩, rs1.fr hD, rs1.newN hD, Ext.newS hD, by rw [List.drop_zero]; exact q⟩, fun i m H2 hW => ?_⟩
  obtain ⟨em, ks, xs, S2, ok, n2, rs2, ex2, q2⟩ := hW
  cases hd : its.drop i with
  | nil =>
    rw [hd] at q2
    have hil : its.length ≤ i := by
      have := congrArg List.length hd
      simp at this
      omega
    have e0 : i = its.length := by omega
    subst e0
    exact .inl ⟨w.stop _ H2 ex2 rs2 q2.1, fin D ks xs S2 H2 q2.2 n2 rs2 (ex1.trans ex2)⟩
  | cons x rest =>
    rw [hd] at q2
    have hil : i < its.length := by
      have := congrArg List.length hd
      simp at this
      omega
    have hx : its[i]? = some x := by
      have := congrArg (fun l => l[0]?) hd
      simpa using this
    have hxs : its.drop (i + 1) = rest := by
      have := congrArg (List.drop 1) hd
      simpa [Nat.add_comm] using this
    obtain ⟨hgo, hy⟩ := w.go _ H2 i x ex2 rs2 q2.1 hx
    refine .inr ⟨hgo, fun H3 => ∃ ks xs S3, (keysN ks ∧ ks.length = xs.length) ∧ S3 D = none ∧ RepS X.K H3 (put S3 D (nkM D ks xs)) ∧ Ext S1 H1 (put S3 D (nkM D ks xs)) H3 ∧ dcN2W gd t tt fi1 t1 tt1 tk tv (wipeP ρ vs) vs1 D (F D) rest ks xs S3, fun H3 ⟨ks', xs', S3, a0, a1, a2, a3, a4⟩ => ⟨m - 1, by omega, by omega, ks', xs', S3, a0, a1, a2, a3, by rw [hxs]; exact a4⟩, fun v H3 yl => ?_⟩
    obtain ⟨rv, rs3, ex3⟩ := hy v H3 yl
    have q3 := q2.2
    split at q3
    · rename_i ρ' eb
      have e13 := ex2.trans ex3
      have re3 : RepE X.K H3 (put S2 D (nkM D ks xs)) (L2.wipe σ vs) (wipeP ρ vs) := (re.ext rs (ex1.trans e13)).wipe vs
      refine tg_run rs3 t x v (L2.wipe σ vs) (wipeP ρ vs) ρ' _ rv re3 eb fun σ4 re4 w4 => ⟨by rw [w4 vs hv]; exact wipe_wipe σ vs vs fun i h => h, ?_⟩
      have e03 := (ex.trans ex1).trans e13
      refine ⟨ρ', _, re4, rs3, e03, m1 _ _ _ _ (fun c S5 q5 H5 rs5 ex5 => ?_) q3⟩
      have e15 := e13.trans ex5
      cases c with
      | true =>
        refine ⟨ρ', S5, re4.ext rs3 ex5, rs5, e03.trans ex5, mi _ _ _ _ (fun its1 gd1 S6 q6 J1 H6 w1 rs6 ex6 => ?_) q5⟩
        obtain ⟨h1, h3⟩ := q6
        have e16 := e15.trans ex6
        exact dcN_loop hv1 m3 m2 m4 w1 ((re4.ext rs3 ex5).ext rs5 ex6) rs6 ((e03.trans ex5).trans ex6) ok h1 h3 fun ks' xs' S' H' ok' f n' rs' ex' => ⟨ks', xs', S', ok', n', rs', e16.trans ex', f⟩
      | false =>
        obtain ⟨h1, h2⟩ := q5
        refine ⟨ks, xs, del S5 D, ok, by simp, ?_, ?_, h2⟩
        · rw [put_del, put_self h1]; exact rs5
        · rw [put_del, put_self h1]; exact e15
    · exact q3.elim
variable {kx vx tg iter tg1 iter1 : Expr} {ifs ifs1 : List Expr} {scope : Scope} {fi fi1 : PFI} {t t1 : Tg} {tt tt1 : PFB} {tk tv : PF}
theorem pv_dcN2 (own : List (Str × Nat)) (vs1 : List Nat) (hu : X.A.units + 64 < cLine) (hc : X.calm = true) (hN : X.N.Nodup) (hi : PIt X S0 H0 tg iter fi) (ok : BlkOk X.N X.env.scope scope own) (hg : Blk X scope fun Y => PG Y tg (tgR X.K t)) (ht : Blk X scope fun Y => PBs Y S0 H0 ifs tt)
    (hi1 : Blk X scope fun Y => PIt Y S0 H0 tg1 iter1 fi1) (hg1 : Blk X scope fun Y => PG Y tg1 (tgR X.K t1)) (ht1 : Blk X scope fun Y => PBs Y S0 H0 ifs1 tt1) (hk : Blk X scope fun Y => PV Y S0 H0 kx tk) (he : Blk X scope fun Y => PV Y S0 H0 vx tv)
    (hv : ∀ i ∈ slotsT t, i ∈ own.map (·.2) := by decide) (hv1 : ∀ i ∈ slotsT t1, i ∈ vs1 := by decide) (hvv : ∀ i ∈ vs1, i ∈ own.map (·.2) := by decide) (hs : ∀ x, foldedSetIterable iter X.env x = pure x := by intro _; rfl) (hs1 : ∀ env x, foldedSetIterable iter1 env x = pure x := by intro _ _; rfl) :
    PV X S0 H0 (.DictComp kx vx [⟨tg, iter, ifs, 0⟩, ⟨tg1, iter1, ifs1, 0⟩] scope pos) (fDcN2 fi t tt fi1 t1 tt1 tk tv (own.map (·.2)) vs1) := by
  have m1 := (ht X.s_0 X.H_0 0 [] []).mono
  have m3 := (ht1 X.s_0 X.H_0 0 [] []).mono
  have m2 := (hk X.s_0 X.H_0 0 [] []).mono
  have m4 := (he X.s_0 X.H_0 0 [] []).mono
  have mi := (hi1 X.s_0 X.H_0 0 [] []).mono
  refine ⟨fun ρ S Q Q' i q => hi.mono _ _ _ _ (fun its gd S1 q D hD => dcN2W_mono m1 mi m3 m2 m4 (fun _ _ _ q => i _ _ q) its [] [] S1 (q D hD)) q, PE.imp (pe_dcN2 (tk := lift X.K S0 H0 tk) (tv := lift X.K S0 H0 tv) (tt := liftB X.K S0 H0 tt) (tt1 := liftB X.K S0 H0 tt1) (wi1 := liftI X.K S0 H0 fi1) hc hN hi.pi ok hvv hg (fun s H C cl fp => (ht s H C cl fp).pts) (fun s H C cl fp => (hi1 s H C cl fp).pi) hg1 (fun s H C cl fp => (ht1 s H C cl fp).pts) (fun s H C cl fp => (hk s H C cl fp).pe) (fun s H C cl fp => (he s H C cl fp).pe) hu hs hs1) fun σ H Q ⟨ρ, S, re, rs, ex, q⟩ => ?_⟩
  exact dcN2_sim hi hv hv1 m1 mi m3 m2 m4 re rs ex q fun D ks xs S' H' g hn rs' e' => g (.ref D) H' rfl rs' e'
end
end PL

namespace PLN
open PySem PySem.Spec PyProof.Rows L2 PLS PL
section
variable {X : Cx} {pins : List (Addr × Obj)} {σ : L2.St} {H : Hp} {s : Shared} {d : Addr} {o : Obj}
theorem paired_getN {L : List EntN} {xs : List EntHN} (h : Paired RelE L xs) {i : Nat} {e : EntN} (he : L[i]? = some e) : ∃ x, xs[i]? = some x ∧ RelE e x := by
  induction h generalizing i with
  | nil => simp at he
  | @cons a b L xs r t ih =>
    cases i with
    | zero =>
      simp only [List.getElem?_cons_zero, Option.some.injEq] at he
      subst he
      exact ⟨b, rfl, r⟩
    | succ j =>
      simp only [List.getElem?_cons_succ] at he ⊢
      exact ih he
theorem nk_frz {L : List EntN} (I : Inv X pins σ H s) (h : H d = some (.frz o (nkO d L))) : (d == sysModules) = false ∧ s.heap.get? d = some o ∧ o.ExactDict ∧ ∃ (es : Array DictEntry) (ep : Nat), o.data = .dict es ep ∧ es.size = L.length ∧
    ∀ (i : Nat) (hi : i < es.size) (k : NestedKey) (b : Addr) (v : V), L[i]? = some (k, b, v) → es[i].key = .ref b ∧ RelV v es[i].val := by
  have x := I.hok d _ h
  obtain ⟨hd, ⟨h1, h2, h3, xs, p, o', es, ep, ho, hx, hdt, ⟨w, he⟩, hn⟩, _⟩ := x
  rw [hd] at ho
  cases ho
  have hl : es.size = xs.length := by
    rw [← Array.length_toList, he, List.length_map]
  refine ⟨h1, hd, hx, es, ep, hdt, by rw [hl, paired_len p], fun i hi k b v e => ?_⟩
  obtain ⟨y, hy, r⟩ := paired_getN p e
  have e2 : es[i]? = some (hEnt w y) := by
    rw [← Array.getElem?_toList, he, List.getElem?_map, hy]
    rfl
  rw [Array.getElem?_eq_getElem hi] at e2
  have e3 := Option.some.inj e2
  rw [e3]
  exact ⟨by rw [show (hEnt w y).key = .ref y.2.1 from rfl, ← r.2.1], r.2.2⟩
theorem nk_type {a : Addr} {L : List EntN} (I : Inv X pins σ H s) (h : Rd H a (nkO a L)) : s.TypeIs (.ref a) "dict" ∧ ∀ b, Value.ref a = .ref b → ∃ ob, s.heap.get? b = some ob ∧ ob.dict = none := by
  have R : NkAt a L s.heap := by
    rcases h with h | ⟨o, h⟩
    · exact (I.hok a _ h).1
    · exact (I.hok a _ h).2.1
  obtain ⟨_, _, _, xs, _, o, es, ep, ho, hx, _⟩ := R
  exact ⟨⟨o, ho, hx.1⟩, fun b e => by cases e; exact ⟨o, ho, hx.2.1⟩⟩
end
def ItiN (d : Addr) (o : Obj) (L : List EntN) : It :=
  ⟨fun i H => H d = some (.frz o (nkO d L)) ∧ i < L.length, fun i H x H' => ∃ T k b v, L[i]? = some (k, b, v) ∧ x = .ref T ∧ H T = none ∧ H' = upd H T (.tup [.ref b, v]), fun i H => H d = some (.frz o (nkO d L)) ∧ L.length ≤ i⟩
section
variable {P : Program} {w : World} {K : PySem.W.Frag} {tg : Expr} {d : Addr} {o : Obj} {es : Array DictEntry} {ep : Nat}
theorem turn_itemsN {L : List EntN} {elts : List Expr} {kk : Nat} {tpos : Pos} (it : Addr) (hod : o.data = .dict es ep) :
    Turn P w K (.Tuple elts kk tpos) (ItiN d o L) [it] it (fun i h => ∃ ok ov, IsItemIter h it d i L.length ep ok ov) where
  mem := by simp
  obj := fun i h st b hb => by
    have e : b = it := by simpa using hb
    subst e
    obtain ⟨ok, ov, e⟩ := st
    exact ⟨_, e, fun v z => nomatch z⟩
  keep := fun i h h' st k => let ⟨ok, ov, e⟩ := st; ⟨ok, ov, k it (by simp) _ e⟩
  item := by
    intro X hP hw hK hc i pins s σ H E I hf st hg
    subst hP hw hK
    obtain ⟨hd, hi⟩ := hg
    obtain ⟨hs, hgd, hx, es', ep', hdt, hsz, ent⟩ := nk_frz I hd
    obtain ⟨rfl, rfl⟩ := dict_ep hod hdt
    obtain ⟨ok, ov, he⟩ := st
    have hlt : it < s.heap.objs.size := Heap.lt_size he
    rw [← hsz] at he hi
    have hL : i < L.length := by rw [← hsz]; exact hi
    obtain ⟨e1, e2⟩ := ent i hi L[i].1 L[i].2.1 L[i].2.2 (List.getElem?_eq_getElem hL)
    refine wpAny_pyNext_items_item_raw he ⟨o, hgd, hx, hdt⟩ hi fun h' ho hT hz hk => ?_
    refine ⟨_, rfl, wpAny_letOwnedTupleGo_items (s := { s with heap := h' }) ho fun h'' he' sb => ?_⟩
    have hT2 := (sb.2 _ (Nat.ne_of_gt hlt)).trans hT
    have new : ObjOk X.prog X.w (upd H s.heap.objs.size (.tup [.ref L[i].2.1, L[i].2.2])) h'' s.heap.objs.size (.tup [.ref L[i].2.1, L[i].2.2]) :=
      ⟨by show 2 ≤ sizeLine; decide, [es'[i].key, es'[i].val], .cons e1 (.cons e2 .nil), ⟨_, hT2, rfl, _, rfl⟩⟩
    have I1 : Inv X pins σ (upd H s.heap.objs.size (.tup [.ref L[i].2.1, L[i].2.2])) { s with heap := h'' } :=
      I.turnedNew (t' := s.toks) (ch := [it]) (fun b ob hb e => (sb.2 b (by simpa using hb)).trans (hk b ob (by simpa using hb) e)) hf (Nat.le_refl _) new
    refine ⟨.ref s.heap.objs.size, _, I1, rfl, ⟨_, _, _, _, List.getElem?_eq_getElem hL, rfl, I.hok.fresh (Nat.le_refl _), rfl⟩, ⟨es'[i].key, es'[i].val, ?_⟩, fun b hb => ?_⟩
    · rw [← hsz]; exact he'
    · have e : b = it := by simpa using hb
      rw [e, upd_ne (Nat.ne_of_lt hlt)]
      exact (hf it (by simp)).1
  done := by
    intro X hP hw hK hc i pins s σ H E I hf st hg
    subst hP hw hK
    obtain ⟨hd, hi⟩ := hg
    obtain ⟨f0, f1, f2, f3, f4, f5⟩ := hf it (by simp)
    obtain ⟨hs, hgd, hx, es', ep', hdt, hsz, ent⟩ := nk_frz I hd
    obtain ⟨rfl, rfl⟩ := dict_ep hod hdt
    obtain ⟨ok, ov, he⟩ := st
    rw [← hsz] at he hi
    exact wpAny_pyNext_items_end_raw (I.ok.hd hc) he ⟨o, hgd, hx, hdt⟩ hi fun h' eb => ⟨rfl, I.turned (t' := s.toks) (fun b ob hb e => eb b ob hb e) f0 f1 f3 f4 f5⟩
  self := fun A i s Q E st h => let ⟨_, _, e⟩ := st; PySem.W.kcp_self e h
end
def iItemsN (td : TE) : TI := fun σ H R => td σ H fun x H1 => ∃ (d : Addr) (L : List EntN), x = .ref d ∧ ((H1 d = some (nkO d L) ∧ ∀ o, R (ItiN d o L) (upd H1 d (.frz o (nkO d L)))) ∨ ∃ o, H1 d = some (.frz o (nkO d L)) ∧ R (ItiN d o L) H1)
section
variable {X : Cx} {tg e : Expr} {td : TE} {apos cpos : Pos}
theorem nk_lock {pins : List (Addr × Obj)} {σ : L2.St} {H1 : Hp} {s1 : Shared} {d : Addr} {L : List EntN} {Y : Obj → Hp → Prop} (I1 : Inv X pins σ H1 s1) (q : (H1 d = some (nkO d L) ∧ ∀ o, Y o (upd H1 d (.frz o (nkO d L)))) ∨ ∃ o, H1 d = some (.frz o (nkO d L)) ∧ Y o H1) :
    ∃ o H2, Inv X pins σ H2 s1 ∧ H2 d = some (.frz o (nkO d L)) ∧ Y o H2 := by
  rcases q with ⟨h, q⟩ | ⟨o, h, q⟩
  · obtain ⟨o, I2⟩ := I1.lock h True.intro
    exact ⟨o, _, I2, upd_same, q o⟩
  · exact ⟨o, H1, I1, h, q⟩
theorem pi_itemsN {elts : List Expr} {kk : Nat} {tpos : Pos} (he : PE X e td) (hbase : attributeBase e "items" X.env (eval e X.env) = eval e X.env := by rfl) (hline : (apos.endLine == cpos.line) = true := by rfl) :
    PI X (.Tuple elts kk tpos) (.Call (.Attribute e "items" apos) [] [] cpos) (iItemsN td) := by
  refine ⟨fun pins s σ H R I h => ?_⟩
  refine wpAny_Call_method (T := "dict") (id := "dict.items") hbase rfl hline F.plainAttrs_dict F.slot_dict_items F.type_dict_items (thn (he.run pins s σ H _ I h) fun u s1 ⟨x, H1, I1, rx, d, L, ex, q⟩ => ?_)
  subst ex
  obtain rfl : u = Value.ref d := rx
  obtain ⟨o, H2, I2, hd, q⟩ := nk_lock I1 q
  obtain ⟨hs, hgd, hx, es, ep, hdt, hsz, ent⟩ := nk_frz I2 hd
  have ty := nk_type I2 (.inr ⟨o, hd⟩)
  refine ⟨ty.1, ty.2, ?_⟩
  have I3 : Inv X pins σ H2 { s1 with heap := s1.heap.push { cls := .type "dict_items", data := .fields #[.ref d] } } := I2.kept (t' := s1.toks) fun b ob q => Heap.get?_push_of_some _ q
  have raw : s1.heap.DictRaw d es ep := ⟨o, hgd, hx, hdt⟩
  have fin : wpAny (model X.prog X.w) X.A (pyIter (.ref s1.heap.objs.size)) (PIE X pins σ (.Tuple elts kk tpos) R) X.xe { s1 with heap := s1.heap.push { cls := .type "dict_items", data := .fields #[.ref d] } } := by
    refine wpAny_pyIter_items_raw (d := d) ⟨_, Heap.get?_push_size _ rfl, rfl, rfl⟩ (raw.at fun b e => Heap.get?_push_of_some _ e) (pi_one (tk := s1.toks) I3 _ (turn_itemsN _ hdt) ⟨.none, .none, ?_⟩ q)
    rw [← hsz]
    exact Heap.get?_push_size _ rfl
  show wpAny _ _ (callWith cpos (.builtin "dict.items") [.ref d] [] []) _ X.xe s1
  exact method_meetsIn F.slot_dict_items F.entry_dict_items rfl (PySem.evalArgs_none ⟨rfl, ty.1, F.args_dict_items_1 _, _, DT.meetsItems (es := es) (ep := ep) hs, ⟨raw, fin⟩⟩)
end
end PLN

namespace PL
open PySem PySem.Spec PyProof.Rows L2 PLS PLN
open Classical in
noncomputable def thenO (p : Prop) (u : HO) : HO := if p then u else .lst []
theorem then_yes {p : Prop} {u : HO} (h : p) : thenO p u = u := if_pos h
theorem then_no {p : Prop} {u : HO} (h : ¬ p) : thenO p u = .lst [] := if_neg h
noncomputable def nkF (o : Obj) (D : Addr) (vs us : List V) (ks xs : List Pv) : Mo := .ob (fun vs' us' => thenO (vs' = vs ∧ us' = us) (.frz o (nkO D (ents ks vs us)))) ks xs
def isN (S : Sto) (a : Addr) (ks xs : List Pv) : Prop := S a = some (nkM a ks xs) ∨ ∃ o vs us, S a = some (nkF o a vs us ks xs)
section
variable {K : PySem.W.Frag} {H : Hp} {S : Sto} {D : Addr} {ks xs : List Pv}
theorem RepS.nkF (rs : RepS K H S) {o : Obj} {vs us : List V} (h : S D = some (nkF o D vs us ks xs)) : H D = some (.frz o (nkO D (ents ks vs us))) ∧ RepVs K H S ks vs ∧ RepVs K H S xs us := by
  obtain ⟨vs', us', e, ob, r1, r2⟩ := rs D _ h
  have e : H D = some (thenO (vs' = vs ∧ us' = us) (.frz o (nkO D (ents ks vs us)))) := e
  have ob : obO (thenO (vs' = vs ∧ us' = us) (.frz o (nkO D (ents ks vs us)))) := ob
  by_cases z : vs' = vs ∧ us' = us
  · rw [then_yes z] at e
    obtain ⟨rfl, rfl⟩ := z
    exact ⟨e, r1, r2⟩
  · rw [then_no z] at ob
    rcases ob with ⟨⟨_, e⟩, _⟩ | ⟨_, _, e⟩ | ⟨_, _, _, e⟩ <;> cases e
theorem RepS.isN (rs : RepS K H S) (h : isN S D ks xs) : ∃ vs us, Rd H D (nkO D (ents ks vs us)) ∧ RepVs K H S ks vs ∧ RepVs K H S xs us := by
  rcases h with h | ⟨o, vs, us, h⟩
  · obtain ⟨vs, us, e, r1, r2⟩ := rs.nk h
    exact ⟨vs, us, .inl e, r1, r2⟩
  · obtain ⟨e, r1, r2⟩ := rs.nkF h
    exact ⟨vs, us, .inr ⟨o, e⟩, r1, r2⟩
theorem RepS.toF {m : Mo} (rs : RepS K H S) (h : S D = some m) (o : Obj) {vs us : List V} (r1 : RepVs K H S ks vs) (r2 : RepVs K H S xs us) : RepS K (upd H D (.frz o (nkO D (ents ks vs us)))) (put S D (PL.nkF o D vs us ks xs)) := by
  have e := Ext.chg (H := H) (m' := PL.nkF o D vs us ks xs) (o := .frz o (nkO D (ents ks vs us))) h
  refine rs.chgX h ⟨vs, us, ?_, ?_, RepVs.ext rs e _ _ r1, RepVs.ext rs e _ _ r2⟩
  · show _ = some (thenO (vs = vs ∧ us = us) _)
    rw [then_yes ⟨rfl, rfl⟩]
    exact upd_same
  · show obO (thenO (vs = vs ∧ us = us) _)
    rw [then_yes ⟨rfl, rfl⟩]
    exact nk_obF
end
def fMethN (o : Pv → List Pv → Sto → QV → Prop) (fa : PF) (fs : PFs) : PF := fun ρ S Q => fa ρ S fun x S1 => (∃ a ks xs, x = .ref a ∧ isN S1 a ks xs) ∧ fs ρ S1 fun ps S2 => o x ps S2 Q
def oUpdN (x : Pv) (ps : List Pv) (S : Sto) (Q : QV) : Prop := ∃ (a b : Addr) (ks xs ms ys : List Pv), x = .ref a ∧ ps = [.ref b] ∧ S a = some (nkM a ks xs) ∧ isN S b ms ys ∧ a ≠ b ∧ keysN ks ∧ keysN ms ∧ ks.length = xs.length ∧ ms.length = ys.length ∧ ks ≠ [] ∧ ks.length + ms.length ≤ sizeLine ∧
  Q .non (put S a (nkM a (mgN ks xs ms ys).1 (mgN ks xs ms ys).2))
section
variable {X : Cx} {S0 : Sto} {H0 : Hp} {a b e : Expr} {fa fb fe : PF} {pos p apos cpos : Pos} {fs : PFs}
theorem pv_updN (hu : X.A.units + 64 < cLine) (ha : PV X S0 H0 a fa) (hb : PVs X S0 H0 [e] fs) (hbase : attributeBase a "update" X.env (eval a X.env) = eval a X.env := by rfl)
    (hfew : ((backTo cpos (starEach [e] X.env)).all (fun x => !x.1) && (backToKw cpos (keywordEach [] X.env)).all (fun x => x.1.isSome) && decide ([e].length + ([] : List Keyword).length + (if ([] : List Keyword).isEmpty then 0 else 1) < 30)) = true := by rfl)
    (hline : (apos.endLine == cpos.line) = true := by rfl) (hs : starEach [e] X.env = (false, eval e X.env) :: starEach [] X.env := by rfl) (hplain : (backTo cpos (starEach [] X.env)).any (·.1) = false := by rfl) :
    PV X S0 H0 (.Call (.Attribute a "update" apos) [e] [] cpos) (fMethN oUpdN fa fs) := by
  have m : ∀ x ps S Q Q', (∀ p S', Q p S' → Q' p S') → oUpdN x ps S Q → oUpdN x ps S Q' := fun x ps S Q Q' i ⟨a, b, ks, xs, ms, ys, h1, h2, h3, h4, h5, h6, h7, h8, h9, h10, h11, q⟩ => ⟨a, b, ks, xs, ms, ys, h1, h2, h3, h4, h5, h6, h7, h8, h9, h10, h11, i _ _ q⟩
  refine ⟨fun ρ S Q Q' i q => ha.mono _ _ _ _ (fun x S1 q => ⟨q.1, hb.mono _ _ _ _ (fun ps S2 q => m _ _ _ _ _ i q) q.2⟩) q, ⟨fun pins s σ H Q I h => ?_⟩⟩
  obtain ⟨ρ, S, re, rs, ex, q⟩ := h
  have run := ha.pe.run pins s σ H (fun (z : V) (H1 : Hp) => (∃ a L, z = .ref a ∧ Rd H1 a (nkO a L)) ∧ liftA X.K S0 H0 fs σ H1 fun vs H2 => ∃ (a b : Addr) (L M : List EntN), z = .ref a ∧ vs = [.ref b] ∧ a ≠ b ∧ H2 a = some (nkO a L) ∧ Rd H2 b (nkO b M) ∧ KEs X.K H2 L ∧ KEs X.K H2 M ∧ L ≠ [] ∧ L.length + M.length ≤ sizeLine ∧ Q .non (upd H2 a (nkO a (mgE L M)))) I
    ⟨ρ, S, re, rs, ex, ha.mono _ _ _ _ (fun x S1 q v H1 rv rs1 ex1 => by
    obtain ⟨⟨a', ks, xs, rfl, hn⟩, q⟩ := q
    have e1 : v = .ref a' := rv
    subst e1
    obtain ⟨vs, us, hd, _⟩ := rs1.isN hn
    refine ⟨⟨a', _, rfl, hd⟩, ρ, S1, re.ext rs ex1, rs1, ex.trans ex1, hb.mono _ _ _ _ (fun ps S2 q ws H2 rw2 rs2 ex2 => ?_) q⟩
    obtain ⟨a, b, ks, xs, ms, ys, h1, h2, h3, h4, h5, h6, h7, h8, h9, h10, h11, q⟩ := q
    cases h1
    subst h2
    obtain ⟨w, rfl, rw3⟩ := rw2.one
    have e2 : w = .ref b := rw3
    subst e2
    obtain ⟨vs1, us1, d1, r1, r1'⟩ := rs2.nk h3
    obtain ⟨vs2, us2, d2, r2, r2'⟩ := rs2.isN h4
    obtain ⟨m1, m2, vs3, us3, m3, m4, m5⟩ := mg_repN h7 r2 r2' h9 h6 r1 r1' h8
    have l1 := ents_len r1.len (r1'.len.trans h8.symm)
    have l2 := ents_len r2.len (r2'.len.trans h9.symm)
    refine ⟨_, b, ents ks vs1 us1, ents ms vs2 us2, rfl, rfl, h5, d1, d2, kes_of h6 r1, kes_of h7 r2, fun z => h10 ?_, by rw [l1, l2]; exact h11, ?_⟩
    · rw [z] at l1
      exact List.length_eq_zero_iff.mp l1.symm
    · rw [← m3]
      exact q _ _ rfl (rs2.chgN h3 m4 m5) ((ex1.trans ex2).trans (Ext.chg h3))) q⟩
  refine wpAny_Call_method_late hbase hfew hline rfl (thn run fun v s1 ⟨x, H1, I1, r1, q1⟩ => ?_)
  obtain ⟨⟨d, L, rfl, hd⟩, q2⟩ := q1
  obtain rfl : v = Value.ref d := r1
  have ty := nk_type I1 hd
  refine ⟨"dict", "dict.update", PySem.F.plainAttrs_dict, PySem.F.slot_dict_update, PySem.F.type_dict_update, ty.1, ty.2, ?_⟩
  have hA := hb.pa.run cpos pins s1 σ H1 _ I1 q2
  rw [hs] at hA ⊢
  refine Calls.callWith_builtin (by show (false || (backTo cpos (starEach [] X.env)).any (·.1)) = false; rw [hplain] <;> rfl) (Calls.evalArgs_plain ?_)
  refine thn hA fun us s2 ⟨vs, H2, I2, r2, a', b', L', M', e1, e2, hne, h1, h2, k1, k2, ne, hz, q⟩ => ?_
  cases e1
  subst e2
  rw [Vals.ref1 r2]
  exact nk_update hu I2 hne h1 h2 k1 k2 ne hz fun s3 I3 => ⟨.non, _, I3, rfl, q⟩
end
def lockN (S : Sto) (a : Addr) (ks xs : List Pv) (Y : (Sto → Prop) → Sto → Prop) : Prop := (S a = some (nkM a ks xs) ∧ ∀ o vs us, Y (fun S' => S' a = some (nkF o a vs us ks xs)) (put S a (nkF o a vs us ks xs))) ∨ ∃ o vs us, S a = some (nkF o a vs us ks xs) ∧ Y (fun S' => S' a = some (nkF o a vs us ks xs)) S
def pairsP (ks xs : List Pv) : List Pv := (ks.zip xs).map fun p => .tup [p.1, p.2]
def fItemsN (f : PF) : PFI := fun ρ S Q => f ρ S fun p S1 => ∃ a ks xs, p = .ref a ∧ keysN ks ∧ ks.length = xs.length ∧ lockN S1 a ks xs fun gd S2 => Q (pairsP ks xs) gd S2
theorem lockN_mono {S : Sto} {a : Addr} {ks xs : List Pv} {Y Y' : (Sto → Prop) → Sto → Prop} (i : ∀ g S', Y g S' → Y' g S') (h : lockN S a ks xs Y) : lockN S a ks xs Y' := by
  rcases h with ⟨h1, h2⟩ | ⟨o, vs, us, h1, h2⟩
  · exact .inl ⟨h1, fun o vs us => i _ _ (h2 o vs us)⟩
  · exact .inr ⟨o, vs, us, h1, i _ _ h2⟩
theorem ents_get {K : PySem.W.Frag} {H : Hp} {S : Sto} : ∀ {ks xs : List Pv} {vs us : List V} {i : Nat} {k : NestedKey} {b : Addr} {u : V}, keysN ks → RepVs K H S ks vs → RepVs K H S xs us → (ents ks vs us)[i]? = some (k, b, u) → ∃ kp x, ks[i]? = some kp ∧ xs[i]? = some x ∧ RepV K H S kp (.ref b) ∧ RepV K H S x u
  | [], _, _, _, _, _, _, _, _, _, _, h => by simp [ents] at h
  | kp :: ks, [], _, _, _, _, _, _, _, ⟨v, vs, e, _⟩, h2, h => by
    have e2 : _ = [] := h2
    subst e e2
    simp [ents] at h
  | kp :: ks, x :: xs, _, _, i, k, b, u, hk, ⟨v, vs, e, h1, h1'⟩, ⟨w, us, e', h2, h2'⟩, h => by
    subst e e'
    cases i with
    | zero =>
      have h : some (toK kp, adr v, w) = some (k, b, u) := h
      cases h
      obtain ⟨⟨a, rfl⟩, _, _⟩ := (hk kp List.mem_cons_self).1.kv h1
      exact ⟨kp, x, rfl, rfl, h1, h2⟩
    | succ j =>
      have h : (ents ks vs us)[j]? = some (k, b, u) := h
      obtain ⟨kq, y, g1, g2, g3⟩ := ents_get (ks := ks) (xs := xs) (fun z hz => hk z (List.mem_cons_of_mem _ hz)) h1' h2' h
      exact ⟨kq, y, g1, g2, g3⟩
section
variable {X : Cx} {S0 : Sto} {H0 : Hp} {a b e : Expr} {fa fb fe : PF} {pos p apos cpos : Pos}
theorem lockN_run {Mk : Addr → Obj → List EntN → It} {S : Sto} {H : Hp} {d : Addr} {ks xs its : List Pv} {R : It → Hp → Prop} {Y : (Sto → Prop) → Sto → Prop} (rs : RepS X.K H S) (ok : keysN ks) (hl : ks.length = xs.length)
    (go : ∀ o L H i, H d = some (.frz o (nkO d L)) → i < L.length → (Mk d o L).go i H) (stop : ∀ o L H i, H d = some (.frz o (nkO d L)) → L.length ≤ i → (Mk d o L).stop i H) (hil : its.length = ks.length)
    (yl : ∀ o vs us S H i v H', RepS X.K H S → RepVs X.K H S ks vs → RepVs X.K H S xs us → (Mk d o (ents ks vs us)).yld i H v H' → ∃ x, its[i]? = some x ∧ RepV X.K H' S x v ∧ RepS X.K H' S ∧ Ext S H S H')
    (h : lockN S d ks xs Y) (k : ∀ gd S' J H', Y gd S' → Wk X.K S' H' J its gd → RepS X.K H' S' → Ext S H S' H' → R J H') :
    ∃ L, (H d = some (nkO d L) ∧ ∀ o, R (Mk d o L) (upd H d (.frz o (nkO d L)))) ∨ ∃ o, H d = some (.frz o (nkO d L)) ∧ R (Mk d o L) H := by
  have wk : ∀ o vs us S1 H1, RepS X.K H1 S1 → S1 d = some (nkF o d vs us ks xs) → Wk X.K S1 H1 (Mk d o (ents ks vs us)) its fun S' => S' d = some (nkF o d vs us ks xs) := fun o vs us S1 H1 rs1 h1 => by
    refine ⟨fun S2 H2 i x e rs2 g hx => ?_, fun S2 H2 e rs2 g => ?_⟩
    · obtain ⟨hd, r1, r2⟩ := rs2.nkF g
      have hlen := ents_len r1.len (r2.len.trans hl.symm)
      have hi : i < (ents ks vs us).length := by
        rw [hlen, ← hil]
        exact (List.getElem?_eq_some_iff.mp hx).1
      refine ⟨go o _ H2 i hd hi, fun v H3 y => ?_⟩
      obtain ⟨x', hx', r⟩ := yl o vs us S2 H2 i v H3 rs2 r1 r2 y
      rw [hx] at hx'
      cases hx'
      exact r
    · obtain ⟨hd, r1, r2⟩ := rs2.nkF g
      refine stop o _ H2 _ hd ?_
      rw [ents_len r1.len (r2.len.trans hl.symm), hil]
      exact Nat.le_refl _
  rcases h with ⟨h1, h2⟩ | ⟨o, vs, us, h1, h2⟩
  · obtain ⟨vs, us, hd, r1, r2⟩ := rs.nk h1
    refine ⟨ents ks vs us, .inl ⟨hd, fun o => ?_⟩⟩
    have rs1 := rs.toF h1 o r1 r2
    exact k _ _ _ _ (h2 o vs us) (wk o vs us _ _ rs1 put_same) rs1 (Ext.chg h1)
  · obtain ⟨hd, r1, r2⟩ := rs.nkF h1
    exact ⟨ents ks vs us, .inr ⟨o, hd, k _ _ _ _ h2 (wk o vs us _ _ rs h1) rs (Ext.refl _ _)⟩⟩
theorem pit_itemsN {elts : List Expr} {kk : Nat} {tpos : Pos} (h : PV X S0 H0 a fa) (hbase : attributeBase a "items" X.env (eval a X.env) = eval a X.env := by rfl) (hline : (apos.endLine == cpos.line) = true := by rfl) :
    PIt X S0 H0 (.Tuple elts kk tpos) (.Call (.Attribute a "items" apos) [] [] cpos) (fItemsN fa) := by
  refine ⟨fun ρ S Q Q' i q => h.mono _ _ _ _ (fun p S1 ⟨d, ks, xs, h1, h2, h3, q⟩ => ⟨d, ks, xs, h1, h2, h3, lockN_mono (fun g S' q => i _ _ _ q) q⟩) q, PI.imp (pi_itemsN h.pe hbase hline) fun σ H R ⟨ρ, S, re, rs, ex, q⟩ => ?_⟩
  refine ⟨ρ, S, re, rs, ex, h.mono _ _ _ _ (fun p S1 ⟨d, ks, xs, h1, h2, h3, q⟩ v H1 rv rs1 ex1 => ?_) q⟩
  subst h1
  have e1 : v = .ref d := rv
  subst e1
  obtain ⟨L, r⟩ := lockN_run (Mk := ItiN) (its := pairsP ks xs) (R := R) rs1 h2 h3 (fun o L H i hd hi => ⟨hd, hi⟩) (fun o L H i hd hi => ⟨hd, hi⟩) (by unfold pairsP; rw [List.length_map, List.length_zip, ← h3, Nat.min_self]) (fun o vs us S H i v H' rs r1 r2 y => by
    obtain ⟨T, k, b, u, hL, rfl, nT, rfl⟩ := y
    obtain ⟨kp, x, e1, e2, r, r'⟩ := ents_get h2 r1 r2 hL
    refine ⟨.tup [kp, x], ?_, pair_new rs nT r r'⟩
    unfold pairsP
    rw [List.getElem?_map, (List.getElem?_zip_eq_some (z := (kp, x))).mpr ⟨e1, e2⟩]
    rfl) q fun gd S' J H' y w rs' ex' => y J H' w rs' (ex1.trans ex')
  exact ⟨d, L, rfl, r⟩
end
def oInN (neg : Bool) : O2 := fun x y S Q => ∃ a ks xs, y = .ref a ∧ isN S a ks xs ∧ keysN ks ∧ ks.length = xs.length ∧ keyN x ∧ Q (.bl (if neg then !hasN ks x else hasN ks x)) S
section
variable {X : Cx}
def rInN (K : PySem.W.Frag) (neg : Bool) : R2 := fun x y H Q => ∃ (a b : Addr) (L : List EntN) (k : NestedKey), x = .ref b ∧ y = .ref a ∧ Rd H a (nkO a L) ∧ KEs K H L ∧ KV true K H k (.ref b) ∧ Q (.bl (if neg then !hasE L k else hasE L k)) H
theorem op_inN (hu : X.A.units + 65 < cLine) : OpR X (compareOp .In) (rInN X.K false) := by
  intro pins s σ H x y v u Q I rx ry h
  obtain ⟨a, b, L, k, rfl, rfl, hd, hk, hb, q⟩ := h
  obtain rfl : v = Value.ref b := rx
  obtain rfl : u = Value.ref a := ry
  exact nk_in (by omega) I hd hk hb fun s' I' => ⟨.bl (hasE L k), H, I', rfl, q⟩
theorem sim_inN' (neg : Bool) : Sim2 X.K (rInN X.K neg) (oInN neg) := by
  refine ⟨fun x y S Q Q' h ⟨a, ks, xs, h1, h2, h3, h4, h5, q⟩ => ⟨a, ks, xs, h1, h2, h3, h4, h5, h _ _ q⟩, fun x y S Qp v u H Q rx ry rs h k => ?_⟩
  obtain ⟨a, ks, xs, rfl, h2, h3, h4, h5, q⟩ := h
  have e1 : u = .ref a := ry
  subst e1
  obtain ⟨vs, us, hd, r1, r2⟩ := rs.isN h2
  have kv := h5.1.kv rx
  obtain ⟨⟨b, rfl⟩, _, _⟩ := id kv
  refine ⟨a, b, ents ks vs us, toK x, rfl, rfl, hd, kes_of h3 r1, kv, ?_⟩
  rw [show hasE (ents ks vs us) (toK x) = hasN ks x from ents_any x r1.len (r2.len.trans h4.symm)]
  exact k _ S _ H q rfl rs (Ext.refl S H)
theorem sim_inN : Sim2 X.K (rInN X.K false) (oInN false) := sim_inN' false
end
end PL

namespace PL
open PySem PySem.Spec PyProof.Rows L2 PLS PLN
section
variable {X : Cx} {S0 : Sto} {H0 : Hp} {pos : Pos}
theorem ps_setDcN {i : Nat} {y : Str} {py : Pos} {kx vx tg iter : Expr} {ifs : List Expr} {scope : Scope} {own : List (Str × Nat)} {pos spos : Pos} {wi : TI} {g : TG} {tt : TT} {tk tv : TE} (hc : X.calm = true) (hN : X.N.Nodup) (hy : X.N[i]? = some y) (hyl : X.env.scope.names.lookup y = some .local)
    (hsw : swapsWith (.DictComp kx vx [⟨tg, iter, ifs, 0⟩] scope pos) (some (.Name y py)) spos.line X.env = pure true) (hi : PI X tg iter wi) (ok : BlkOk X.N X.env.scope scope own)
    (hg : ∀ (s : Shared) (H : Hp) (C : Addr) (cl : List (Str × Addr)) (fp : List Addr), PG (X.blk s H scope (compEnvC scope cl C X.env) fp) tg g) (ht : ∀ (s : Shared) (H : Hp) (C : Addr) (cl : List (Str × Addr)) (fp : List Addr), PTs (X.blk s H scope (compEnvC scope cl C X.env) fp) ifs tt)
    (hk : ∀ (s : Shared) (H : Hp) (C : Addr) (cl : List (Str × Addr)) (fp : List Addr), PE (X.blk s H scope (compEnvC scope cl C X.env) fp) kx tk)
    (he : ∀ (s : Shared) (H : Hp) (C : Addr) (cl : List (Str × Addr)) (fp : List Addr), PE (X.blk s H scope (compEnvC scope cl C X.env) fp) vx tv) (hu : X.A.units + 64 < cLine) (hs : ∀ x, foldedSetIterable iter X.env x = pure x := by intro _; rfl) :
    PS X (.Assign [.Name y py] (.DictComp kx vx [⟨tg, iter, ifs, 0⟩] scope pos) spos) (tAsg (tDcN X.K wi g tt tk tv (own.map (·.2))) (gName i)) := by
  refine ⟨fun pins s σ H D I h => ?_⟩
  rw [exec_Assign_Name_used _ _ _ _ hsw]
  refine wpAny_bind (wpAny_standAt (wpAny_bind ?_))
  show wpAny _ X.A (do let _ ← comprehension (.DictComp kx vx [⟨tg, iter, ifs, 0⟩] scope pos) scope X.env (firstIterPos [⟨tg, iter, ifs, 0⟩] pos) newDict false (eval iter X.env) (some (assign (.Name y py) X.env))) _ _ s
  have h : tDcN X.K wi g tt tk tv (own.map (·.2)) σ H (fun x H1 => gName i x σ H1 D.nx) := h
  refine wpAny_bind (thn (dcN_core (Qf := fun _ s' => SP X pins D .next s') hc hN I hi ok hg ht hk he hs hu h fun L C s' m H' I' q hn f => ?_) fun _ s' hq => wpAny_pure (wpAny_pure hq))
  show wpAny _ _ (assign (.Name y py) X.env (.ref L)) _ _ _
  refine wpAny_assign_Name (store_ok2 (v := V.ref L) I' hN hy (.inl hyl) rfl (fun s2 I2 ⟨a, sb, ha⟩ => ?_) (.inr hyl))
  obtain ⟨f0, f1, f2, f3, f4, f5⟩ := f
  have haC : C ≠ a := by
    rcases ha with z | z
    · rw [z]; exact f1
    · exact fun e => f4 y a z e.symm
  refine ⟨m, hn.sameBut sb haC, fun h3 sb3 => ?_⟩
  exact ⟨_, H', I2.turned (t' := s2.toks) (fun b o hb e => (sb3.2 b hb).trans e) f0 f1 f3 f4 f5, q⟩
variable {kx vx tg iter : Expr} {ifs : List Expr} {scope : Scope} {fi : PFI} {t : Tg} {tt : PFB} {tk tv : PF}
theorem pz_setDcN (i : Nat) {y : Str} {py spos : Pos} (own : List (Str × Nat)) (hu : X.A.units + 64 < cLine) (hc : X.calm = true) (hN : X.N.Nodup) (hi : PIt X S0 H0 tg iter fi) (ok : BlkOk X.N X.env.scope scope own) (hg : Blk X scope fun Y => PG Y tg (tgR X.K t)) (ht : Blk X scope fun Y => PBs Y S0 H0 ifs tt) (hk : Blk X scope fun Y => PV Y S0 H0 kx tk) (he : Blk X scope fun Y => PV Y S0 H0 vx tv)
    (hsw : swapsWith (.DictComp kx vx [⟨tg, iter, ifs, 0⟩] scope pos) (some (.Name y py)) spos.line X.env = pure true)
    (hy : X.N[i]? = some y := by rfl) (hyl : X.env.scope.names.lookup y = some .local := by rfl) (hv : ∀ i ∈ slotsT t, i ∈ own.map (·.2) := by decide) (hs : ∀ x, foldedSetIterable iter X.env x = pure x := by intro _; rfl) : PZ X S0 H0 (.Assign [.Name y py] (.DictComp kx vx [⟨tg, iter, ifs, 0⟩] scope pos) spos) (gSet i (fDcN fi t tt tk tv (own.map (·.2)))) := by
  have m1 := (ht X.s_0 X.H_0 0 [] []).mono
  have m2 := (hk X.s_0 X.H_0 0 [] []).mono
  have m3 := (he X.s_0 X.H_0 0 [] []).mono
  refine ⟨fun D D' ρ S l q => hi.mono _ _ _ _ (fun its gd S1 q D1 hD => dcNW_mono m1 m2 m3 (fun _ _ _ q => l.1 _ _ q) its [] [] S1 (q D1 hD)) q, PS.imp (ps_setDcN (tk := lift X.K S0 H0 tk) (tv := lift X.K S0 H0 tv) (tt := liftB X.K S0 H0 tt) hc hN hy hyl hsw hi.pi ok hg (fun s H C cl fp => (ht s H C cl fp).pts) (fun s H C cl fp => (hk s H C cl fp).pe) (fun s H C cl fp => (he s H C cl fp).pe) hu hs) fun D σ H ⟨ρ, S, re, rs, ex, q⟩ => ?_⟩
  exact dcN_sim hi hv m1 m2 m3 re rs ex q fun L ks xs S' H' g hn rs' e' => g _ H' ((re.ext rs e').set i (show RepV X.K H' _ (.ref L) (.ref L) from rfl)) rs' e'
end
end PL

namespace PL
open PySem PySem.Spec PyProof.Rows L2 PLS PLN
abbrev Cel := Nat × Nat
def cellP (c : Cel) : Pv := .tup [.int (c.1 : Nat), .int (c.2 : Nat)]
def cellsC (ds : List Nat) : List Cel := (List.range (bkM ds)).flatMap fun i => (List.range (bkM ds)).map fun j => (bkX ds + i, bkY ds + j)
theorem cellsL_eq (ds : List Nat) : cellsL ds = (cellsC ds).map cellP := by
  unfold cellsL cellsC
  rw [List.map_flatMap]
  congr 1
  funext i
  rw [List.map_map]
  refine List.map_congr_left fun j _ => ?_
  show Pv.tup [.int ((bkX ds : Int) + (i : Nat)), .int ((bkY ds : Int) + (j : Nat))] = .tup [.int ((bkX ds + i : Nat) : Int), .int ((bkY ds + j : Nat) : Int)]
  rw [show ((bkX ds + i : Nat) : Int) = (bkX ds : Int) + (i : Nat) by omega, show ((bkY ds + j : Nat) : Int) = (bkY ds : Int) + (j : Nat) by omega]
theorem toK_cell (c : Cel) : toK (cellP c) = .tup [.num (c.1 : Nat), .num (c.2 : Nat)] := by simp only [cellP, toK, toKs]
theorem cell_inj {a b : Cel} : toK (cellP a) = toK (cellP b) ↔ a = b := by
  rw [toK_cell, toK_cell]
  constructor
  · intro h
    injection h with h
    injection h with h1 h2
    injection h2 with h2 _
    injection h1 with h1
    injection h2 with h2
    exact Prod.ext (by omega) (by omega)
  · rintro rfl; rfl
theorem keyN_cell (c : Cel) : keyN (cellP c) := by
  refine ⟨⟨rfl, rfl, ?_⟩, ?_⟩
  · show (toK (cellP c)).depth ≤ 8
    rw [toK_cell]
    simp only [NestedKey.depth, NestedKey.depthAll]
    decide
  · rw [toK_cell]
    rfl
theorem keysN_cells (L : List Cel) : keysN (L.map cellP) := fun z hz => by
  obtain ⟨c, _, rfl⟩ := List.mem_map.mp hz
  exact keyN_cell c
theorem hasN_cell (L : List Cel) (c : Cel) : hasN (L.map cellP) (cellP c) = decide (c ∈ L) := by
  unfold hasN
  rw [Bool.eq_iff_iff, List.any_eq_true, decide_eq_true_eq]
  constructor
  · rintro ⟨z, hz, e⟩
    obtain ⟨d, hd, rfl⟩ := List.mem_map.mp hz
    rw [← cell_inj.mp (of_decide_eq_true e)]
    exact hd
  · intro h
    exact ⟨cellP c, List.mem_map.mpr ⟨c, h, rfl⟩, decide_eq_true rfl⟩
def addL (L : List Cel) (c : Cel) : List Cel := if c ∈ L then L else L ++ [c]
theorem put_old {α : Type} (L : List Cel) (f : Cel → Pv) {c : Cel} (v : Pv) (h : c ∈ L) : putN (L.map cellP) (L.map f) (cellP c) v = (L.map cellP, L.map fun x => if x = c then v else f x) := by
  unfold putN
  rw [hasN_cell, if_pos (decide_eq_true h)]
  congr 1
  rw [List.zip_map', List.map_map]
  refine List.map_congr_left fun x _ => ?_
  show (if toK (cellP x) = toK (cellP c) then v else f x) = _
  by_cases e : x = c
  · rw [if_pos (cell_inj.mpr e), if_pos e]
  · rw [if_neg (fun z => e (cell_inj.mp z)), if_neg e]
theorem mg_old (L : List Cel) (v : Pv) : ∀ (as : List Cel) (f : Cel → Pv), (∀ a ∈ as, a ∈ L) → mgN (L.map cellP) (L.map f) (as.map cellP) (as.map fun _ => v) = (L.map cellP, L.map fun x => if x ∈ as then v else f x)
  | [], f, _ => by
    show (L.map cellP, L.map f) = _
    congr 1
  | a :: as, f, h => by
    show mgN (putN (L.map cellP) (L.map f) (cellP a) v).1 (putN (L.map cellP) (L.map f) (cellP a) v).2 (as.map cellP) (as.map fun _ => v) = _
    rw [put_old (α := Unit) L f v (h a List.mem_cons_self)]
    rw [mg_old L v as _ fun x hx => h x (List.mem_cons_of_mem _ hx)]
    congr 1
    refine List.map_congr_left fun x _ => ?_
    by_cases e : x = a
    · have h1 : x ∈ a :: as := by rw [e]; exact List.mem_cons_self
      rw [if_pos h1, if_pos e]
      split <;> rfl
    · rw [if_neg e]
      by_cases z : x ∈ as
      · rw [if_pos z, if_pos (List.mem_cons_of_mem _ z)]
      · rw [if_neg z, if_neg fun w => (List.mem_cons.mp w).elim e z]
theorem put_new (L : List Cel) (v : Pv) (c : Cel) : putN (L.map cellP) (L.map fun _ => v) (cellP c) v = ((addL L c).map cellP, (addL L c).map fun _ => v) := by
  unfold addL
  by_cases h : c ∈ L
  · rw [put_old (α := Unit) L _ v h, if_pos h]
    congr 1
    refine List.map_congr_left fun x _ => ?_
    split <;> rfl
  · unfold putN
    rw [hasN_cell, if_neg (by rw [decide_eq_true_eq]; exact h), if_neg h, List.map_append, List.map_append]
    try rfl
def addLs (L as : List Cel) : List Cel := as.foldl addL L
theorem mg_new (v : Pv) : ∀ (as L : List Cel), mgN (L.map cellP) (L.map fun _ => v) (as.map cellP) (as.map fun _ => v) = ((addLs L as).map cellP, (addLs L as).map fun _ => v)
  | [], L => rfl
  | a :: as, L => by
    show mgN (putN (L.map cellP) (L.map fun _ => v) (cellP a) v).1 (putN (L.map cellP) (L.map fun _ => v) (cellP a) v).2 (as.map cellP) (as.map fun _ => v) = _
    rw [put_new L v a]
    exact mg_new v as _
theorem addL_mem {L : List Cel} {c x : Cel} : x ∈ addL L c ↔ x ∈ L ∨ x = c := by
  unfold addL
  split
  · rename_i h
    exact ⟨.inl, fun z => z.elim id fun e => by rw [e]; exact h⟩
  · rw [List.mem_append, List.mem_singleton]
theorem addL_nd {L : List Cel} {c : Cel} (h : L.Nodup) : (addL L c).Nodup := by
  unfold addL
  split
  · exact h
  · rename_i hn
    exact List.nodup_append.mpr ⟨h, by simp, fun x hx y hy e => hn (by rw [List.mem_singleton] at hy; rw [← hy, ← e]; exact hx)⟩
theorem addLs_mem : ∀ {as L : List Cel} {x : Cel}, x ∈ addLs L as ↔ x ∈ L ∨ x ∈ as
  | [], L, x => ⟨.inl, fun h => h.elim id fun z => nomatch z⟩
  | a :: as, L, x => by
    show x ∈ addLs (addL L a) as ↔ _
    rw [addLs_mem, addL_mem, List.mem_cons, or_assoc]
theorem addLs_nd : ∀ {as L : List Cel}, L.Nodup → (addLs L as).Nodup
  | [], L, h => h
  | a :: as, L, h => addLs_nd (as := as) (addL_nd h)
theorem bkM_pos (ds : List Nat) : 0 < bkM ds := Nat.pow_pos (by decide)
theorem mem_cells {ds : List Nat} {c : Cel} : c ∈ cellsC ds ↔ c.1 / bkM ds = (spN ds).1 ∧ c.2 / bkM ds = (spN ds).2 := by
  have b1 := in_blk (c := c.1) (x := (spN ds).1) (bkM_pos ds)
  have b2 := in_blk (c := c.2) (x := (spN ds).2) (bkM_pos ds)
  rw [← b1, ← b2]
  unfold cellsC
  rw [List.mem_flatMap]
  constructor
  · rintro ⟨i, hi, h⟩
    obtain ⟨j, hj, rfl⟩ := List.mem_map.mp h
    exact ⟨⟨i, List.mem_range.mp hi, rfl⟩, j, List.mem_range.mp hj, rfl⟩
  · rintro ⟨⟨i, hi, e1⟩, j, hj, e2⟩
    exact ⟨i, List.mem_range.mpr hi, List.mem_map.mpr ⟨j, List.mem_range.mpr hj, Prod.ext e1 e2⟩⟩
def celAll : List Cel := cellsC []
theorem mem_all {c : Cel} : c ∈ celAll ↔ c.1 < 16 ∧ c.2 < 16 := by
  unfold celAll
  rw [mem_cells]
  show c.1 / 16 = 0 ∧ c.2 / 16 = 0 ↔ _
  omega
theorem all_len : celAll.length = 256 := by decide +kernel
theorem celAll_map : celAll.map (fun c : Cel => c.1 * 16 + c.2) = List.range 256 := by decide +kernel
theorem all_nd : celAll.Nodup := List.Pairwise.of_map (S := fun a b : Nat => a ≠ b) (fun c : Cel => c.1 * 16 + c.2) (fun _ _ h e => h (by rw [e])) (by rw [celAll_map]; exact List.nodup_range)
def cc (c : Cel) : Cd := cdN c.1 c.2 4
theorem cdN_take : ∀ (n k x y : Nat), k ≤ n → (cdN x y n).take k = cdN (x / 2 ^ (n - k)) (y / 2 ^ (n - k)) k
  | n, 0, x, y, _ => by rw [List.take_zero]; rfl
  | 0, k + 1, x, y, h => by omega
  | n + 1, k + 1, x, y, h => by
    show (dgN x y n :: cdN x y n).take (k + 1) = dgN _ _ k :: cdN _ _ k
    rw [List.take_succ_cons, cdN_take n k x y (by omega)]
    have e : n + 1 - (k + 1) = n - k := by omega
    rw [e]
    congr 1
    unfold dgN
    have e2 : 2 ^ (n - k) * 2 ^ k = 2 ^ n := by rw [← Nat.pow_add]; congr 1; omega
    rw [Nat.div_div_eq_div_mul, Nat.div_div_eq_div_mul, e2]
theorem cc_fn (c : Cel) : Fn 4 (cc c) := ⟨cdN_len _ _ _, cdN_lt _ _ _⟩
theorem mem_pre {ds : List Nat} (h4 : ∀ d ∈ ds, d < 4) (hl : ds.length ≤ 4) {c : Cel} (hc : c ∈ celAll) : c ∈ cellsC ds ↔ ds <+: cc c := by
  obtain ⟨h1, h2⟩ := mem_all.mp hc
  rw [mem_cells, List.prefix_iff_eq_take]
  unfold cc
  rw [cdN_take 4 ds.length c.1 c.2 hl]
  have e4 : 2 ^ ds.length * 2 ^ (4 - ds.length) = 16 := by rw [← Nat.pow_add, show ds.length + (4 - ds.length) = 4 by omega]
  have g1 : c.1 / 2 ^ (4 - ds.length) < 2 ^ ds.length := by
    rw [Nat.div_lt_iff_lt_mul (Nat.pow_pos (by decide))]; omega
  have g2 : c.2 / 2 ^ (4 - ds.length) < 2 ^ ds.length := by
    rw [Nat.div_lt_iff_lt_mul (Nat.pow_pos (by decide))]; omega
  have hs := spN_cdN _ _ ds.length g1 g2
  constructor
  · rintro ⟨e1, e2⟩
    refine spN_inj ds.length ds _ rfl (cdN_len _ _ _) h4 (cdN_lt _ _ _) ?_
    rw [hs]
    exact Prod.ext e1.symm e2.symm
  · intro e
    have := congrArg spN e
    rw [hs] at this
    exact ⟨(congrArg Prod.fst this).symm, (congrArg Prod.snd this).symm⟩
theorem cells_in {ds : List Nat} (h4 : ∀ d ∈ ds, d < 4) (hl : ds.length ≤ 4) : ∀ c ∈ cellsC ds, c ∈ celAll := fun c hc => by
  obtain ⟨e1, e2⟩ := mem_cells.mp hc
  have hs := spN_lt ds.length ds rfl h4
  have e4 : 2 ^ ds.length * 2 ^ (4 - ds.length) = 16 := by rw [← Nat.pow_add, show ds.length + (4 - ds.length) = 4 by omega]
  have hp : 0 < bkM ds := bkM_pos ds
  refine mem_all.mpr ⟨?_, ?_⟩
  · have : c.1 / bkM ds < 2 ^ ds.length := by rw [e1]; exact hs.1
    rw [Nat.div_lt_iff_lt_mul hp] at this
    rw [← e4]; exact this
  · have : c.2 / bkM ds < 2 ^ ds.length := by rw [e2]; exact hs.2
    rw [Nat.div_lt_iff_lt_mul hp] at this
    rw [← e4]; exact this
theorem cells_ne (ds : List Nat) : (bkX ds, bkY ds) ∈ cellsC ds := by
  refine mem_cells.mpr ⟨?_, ?_⟩
  · show (spN ds).1 * bkM ds / bkM ds = _
    exact Nat.mul_div_cancel _ (bkM_pos ds)
  · show (spN ds).2 * bkM ds / bkM ds = _
    exact Nat.mul_div_cancel _ (bkM_pos ds)
theorem cells_len (ds : List Nat) : (cellsC ds).length ≤ 256 := by
  unfold cellsC
  rw [List.length_flatMap]
  have hm := bkM_le ds
  have : ((List.range (bkM ds)).map fun i => ((List.range (bkM ds)).map fun j => (bkX ds + i, bkY ds + j)).length) = (List.range (bkM ds)).map fun _ => bkM ds := List.map_congr_left fun i _ => by rw [List.length_map, List.length_range]
  rw [this, List.map_const', List.sum_replicate_nat, List.length_range]
  exact Nat.mul_le_mul hm hm
def cofC : Nat → (Cel → Bool) → Cd → List Cd
  | 0, _, _ => []
  | n + 1, G, ds => if (cellsC ds).all G = true then [ds] else if (cellsC ds).any G = false then [] else kidsC.flatMap fun s => cofC n G (ds ++ [s])
theorem cof_pre : ∀ (n : Nat) (G : Cel → Bool) (ds : Cd), Up 4 ds → ∀ k ∈ cofC n G ds, ds <+: k ∧ Up 4 k
  | 0, _, _, _, k, hk => by cases hk
  | n + 1, G, ds, hu, k, hk => by
    unfold cofC at hk
    split at hk
    · rw [List.mem_singleton.mp hk]; exact ⟨List.prefix_refl _, hu⟩
    · rename_i h1
      split at hk
      · cases hk
      · rename_i h2
        obtain ⟨s, hs, hk⟩ := List.mem_flatMap.mp hk
        by_cases h4 : ds.length < 4
        · obtain ⟨p, u⟩ := cof_pre n G (ds ++ [s]) (up_kid hu h4 (kid_lt hs)) k hk
          exact ⟨(List.prefix_append ds [s]).trans p, u⟩
        · exfalso
          have hl : ds.length = 4 := by have := hu.1; omega
          have hone : cellsC ds = [(bkX ds, bkY ds)] := by
            unfold cellsC
            rw [show bkM ds = 1 by unfold bkM; rw [hl]]
            rfl
          rw [hone] at h1 h2
          simp only [List.all_cons, List.all_nil, Bool.and_true, List.any_cons, List.any_nil, Bool.or_false] at h1 h2
          cases e : G (bkX ds, bkY ds)
          · exact h2 e
          · exact h1 e
theorem cof_cov : ∀ (n : Nat) (G : Cel → Bool) (ds : Cd), Up 4 ds → 5 ≤ n + ds.length → ∀ c ∈ cellsC ds, ((∃ k ∈ cofC n G ds, c ∈ cellsC k) ↔ G c = true)
  | 0, _, ds, hu, hn, c, hc => by have := hu.1; omega
  | n + 1, G, ds, hu, hn, c, hc => by
    have hca := cells_in hu.2 hu.1 c hc
    unfold cofC
    split
    · rename_i h1
      exact ⟨fun _ => List.all_eq_true.mp h1 c hc, fun _ => ⟨ds, List.mem_singleton.mpr rfl, hc⟩⟩
    · rename_i h1
      split
      · rename_i h2
        refine ⟨(fun ⟨k, hk, _⟩ => nomatch hk), fun z => ?_⟩
        have := List.any_eq_true.mpr ⟨c, hc, z⟩
        rw [h2] at this; cases this
      · rename_i h2
        by_cases h4 : ds.length < 4
        · have hp := (mem_pre hu.2 hu.1 hca).mp hc
          obtain ⟨s, hs, ps⟩ := pre_kid (cc_fn c) hp h4
          have us := up_kid hu h4 hs
          have hcs := (mem_pre us.2 us.1 hca).mpr ps
          have ih := cof_cov n G (ds ++ [s]) us (by rw [List.length_append, List.length_singleton]; omega) c hcs
          rw [← ih]
          constructor
          · rintro ⟨k, hk, hck⟩
            obtain ⟨t, ht, hk⟩ := List.mem_flatMap.mp hk
            obtain ⟨pk, uk⟩ := cof_pre n G (ds ++ [t]) (up_kid hu h4 (kid_lt ht)) k hk
            have p2 := pk.trans ((mem_pre uk.2 uk.1 hca).mp hck)
            have e : s = t := by
              rcases pre_cmp ps p2 with p | p
              · have := p.eq_of_length (by simp)
                simpa using this
              · have := p.eq_of_length (by simp)
                simpa using this.symm
            rw [e]
            exact ⟨k, hk, hck⟩
          · rintro ⟨k, hk, hck⟩
            exact ⟨k, List.mem_flatMap.mpr ⟨s, lt_kid hs, hk⟩, hck⟩
        · exfalso
          have hl : ds.length = 4 := by have := hu.1; omega
          have hone : cellsC ds = [(bkX ds, bkY ds)] := by
            unfold cellsC
            rw [show bkM ds = 1 by unfold bkM; rw [hl]]
            rfl
          rw [hone] at h1 h2
          simp only [List.all_cons, List.all_nil, Bool.and_true, List.any_cons, List.any_nil, Bool.or_false] at h1 h2
          cases e : G (bkX ds, bkY ds)
          · exact h2 e
          · exact h1 e
theorem lt_app : ∀ (l : List Nat) {s t : Nat} (x y : List Nat), s < t → l ++ s :: x < l ++ t :: y
  | [], s, t, x, y, h => List.cons_lt_cons_iff.mpr (.inl h)
  | a :: l, s, t, x, y, h => List.cons_lt_cons_iff.mpr (.inr ⟨rfl, lt_app l x y h⟩)
theorem apart_kids {ds a b : Cd} {s t : Nat} (h : s < t) (ha : ds ++ [s] <+: a) (hb : ds ++ [t] <+: b) : apart (cdS a) (cdS b) = true := by
  obtain ⟨x, rfl⟩ := ha
  obtain ⟨y, rfl⟩ := hb
  unfold apart
  rw [Bool.and_eq_true, Bool.not_eq_true']
  constructor
  · rw [strLt_iff]
    show (((ds ++ [s]) ++ x).map (· + 48)) < (((ds ++ [t]) ++ y).map (· + 48))
    simp only [List.map_append, List.map_cons, List.map_nil, List.append_assoc, List.singleton_append]
    exact lt_app _ _ _ (by omega)
  · rw [preS_cd]
    cases q : ((ds ++ [s]) ++ x).isPrefixOf ((ds ++ [t]) ++ y) with
    | false => rfl
    | true =>
      exfalso
      have p := (List.prefix_append (ds ++ [s]) x).trans (List.isPrefixOf_iff_prefix.mp q)
      have p2 := List.prefix_append (ds ++ [t]) y
      rcases pre_cmp p p2 with p | p
      · have := p.eq_of_length (by simp)
        have : s = t := by simpa using this
        omega
      · have := p.eq_of_length (by simp)
        have : t = s := by simpa using this
        omega
theorem cof_apart : ∀ (n : Nat) (G : Cel → Bool) (ds : Cd), Up 4 ds → (cofC n G ds).Pairwise fun a b => apart (cdS a) (cdS b) = true
  | 0, _, _, _ => List.Pairwise.nil
  | n + 1, G, ds, hu => by
    unfold cofC
    split
    · exact List.pairwise_singleton _ _
    · rename_i h1
      split
      · exact List.Pairwise.nil
      · rename_i h2
        by_cases h4 : ds.length < 4
        · refine List.pairwise_flatMap.mpr ⟨fun s hs => cof_apart n G (ds ++ [s]) (up_kid hu h4 (kid_lt hs)), ?_⟩
          have pw : kidsC.Pairwise (· < ·) := by decide
          exact List.Pairwise.imp_of_mem (fun {s t} hs ht lt a ha b hb => apart_kids lt (cof_pre n G _ (up_kid hu h4 (kid_lt hs)) a ha).1 (cof_pre n G _ (up_kid hu h4 (kid_lt ht)) b hb).1) pw
        · exfalso
          have hl : ds.length = 4 := by have := hu.1; omega
          have hone : cellsC ds = [(bkX ds, bkY ds)] := by
            unfold cellsC
            rw [show bkM ds = 1 by unfold bkM; rw [hl]]
            rfl
          rw [hone] at h1 h2
          simp only [List.all_cons, List.all_nil, Bool.and_true, List.any_cons, List.any_nil, Bool.or_false] at h1 h2
          cases e : G (bkX ds, bkY ds)
          · exact h2 e
          · exact h1 e
theorem cof_len : ∀ (n : Nat) (G : Cel → Bool) (ds : Cd), (cofC n G ds).length ≤ 4 ^ (n - 1)
  | 0, _, _ => Nat.zero_le _
  | n + 1, G, ds => by
    unfold cofC
    have hp : 1 ≤ 4 ^ n := Nat.pow_pos (by decide)
    split
    · exact hp
    · split
      · exact Nat.zero_le _
      · cases n with
        | zero => show ([] ++ ([] ++ ([] ++ ([] ++ [])))).length ≤ _; simp
        | succ n =>
          show ((cofC (n + 1) G (ds ++ [0])) ++ ((cofC (n + 1) G (ds ++ [1])) ++ ((cofC (n + 1) G (ds ++ [2])) ++ ((cofC (n + 1) G (ds ++ [3])) ++ [])))).length ≤ _
          simp only [List.length_append, List.length_nil]
          have h0 := cof_len (n + 1) G (ds ++ [0])
          have h1 := cof_len (n + 1) G (ds ++ [1])
          have h2 := cof_len (n + 1) G (ds ++ [2])
          have h3 := cof_len (n + 1) G (ds ++ [3])
          rw [Nat.add_sub_cancel] at h0 h1 h2 h3
          rw [Nat.add_sub_cancel, Nat.pow_succ]
          omega
def celF (c : Cel) (day : Int) (r : Str) (m : Mv) : Str := if (decide (m.1 ≤ day) && m.2.1.any fun ds => decide (c ∈ cellsC ds)) = true then m.2.2 else r
def celR (ms : List Mv) (day : Int) (c : Cel) : Str := ms.foldl (celF c day) "land"
theorem celR_snoc (ms : List Mv) (m : Mv) (day : Int) (c : Cel) : celR (ms ++ [m]) day c = celF c day (celR ms day c) m := by
  unfold celR
  rw [List.foldl_append]
  rfl
end PL

namespace PL
open PySem PySem.Spec PyProof.Rows L2 PLS PLN
theorem addLs_app : ∀ (as acc : List Cel), (acc ++ as).Nodup → addLs acc as = acc ++ as
  | [], acc, _ => by rw [List.append_nil]; rfl
  | c :: as, acc, nd => by
    have hn : c ∉ acc := fun h => (List.nodup_append.mp nd).2.2 c h c List.mem_cons_self rfl
    show addLs (addL acc c) as = _
    rw [show addL acc c = acc ++ [c] from if_neg hn, addLs_app as (acc ++ [c]) (by rw [List.append_assoc]; exact nd), List.append_assoc]
    rfl
theorem addLs_all : addLs [] celAll = celAll := addLs_app celAll [] all_nd
theorem subA_len {L : List Cel} (nd : L.Nodup) (h : ∀ x ∈ L, x ∈ celAll) : L.length ≤ 256 := by
  have := nodup_leC nd h
  rwa [all_len] at this
theorem has_put {S : Sto} {D : Addr} {m : Mo} (hD : S D = none) : Has S (put S D m) := fun b n e => by rw [put_ne (fun z => by rw [z, hD] at e; cases e)]; exact e
theorem it_figS (S : Sto) : itP S (.str (Str.ofString "0123")) = some (kidsC.map fg, tru) := by
  show some (chars (Str.ofString "0123"), _) = _
  rw [fig_chars]
theorem dcN2_cells {gd : Sto → Prop} {t t1 : Tg} {fi1 : PFI} {tk tv : PF} {ρ : Env'} {vs1 : List Nat} {D : Addr} {Q : List Pv → List Pv → Sto → Prop} {S : Sto} (g : Cd → Pv) (v : Pv) (hD : S D = none) (hg : ∀ S', Has S S' → gd S') : ∀ (ds : List Cd) (J : List Cel), (∀ c ∈ ds, Up 4 c) → (∀ x ∈ J, x ∈ celAll) → J.Nodup →
    (∀ c ∈ ds, ∀ S', Has S S' → ∃ ρ2, bindT S' t (g c) ρ = some ρ2 ∧ (∀ k : List Pv → (Sto → Prop) → Sto → Prop, k ((cellsC c).map cellP) tru S' → fi1 ρ2 S' k) ∧ ∀ cell ∈ cellsC c, ∀ S'', Has S S'' → ∃ ρ3, bindT S'' t1 (cellP cell) (wipeP ρ2 vs1) = some ρ3 ∧ (∀ k : QV, k (cellP cell) S'' → tk ρ3 S'' k) ∧ ∀ k : QV, k v S'' → tv ρ3 S'' k) →
    Q ((addLs J (ds.flatMap cellsC)).map cellP) ((addLs J (ds.flatMap cellsC)).map fun _ => v) S → dcN2W gd t fYes fi1 t1 fYes tk tv ρ vs1 D Q (ds.map g) (J.map cellP) (J.map fun _ => v) S
  | [], J, _, _, _, _, q => ⟨hg _ (has_put hD), q⟩
  | c :: ds, J, hu, hJ, nd, h, q => by
    refine ⟨hg _ (has_put hD), ?_⟩
    obtain ⟨ρ2, e, h1, h2⟩ := h c List.mem_cons_self (put S D (nkM D (J.map cellP) (J.map fun _ => v))) (has_put hD)
    rw [e]
    refine h1 _ ⟨put_same, ?_⟩
    rw [del_put hD]
    have hc := hu c List.mem_cons_self
    refine dcNW_pure cellP cellP (fun _ => v) hD (fun _ _ => trivial) (cellsC c) _ _ ?_ (fun cell hcell => ⟨keyN_cell cell, fun S' hS' => h2 cell hcell S' hS'⟩) ?_
    · rw [List.length_map]
      have h1 := subA_len nd hJ
      have h2 := cells_len c
      exact Nat.le_trans (Nat.add_le_add h1 h2) (by decide)
    · rw [show mgN (J.map cellP) (J.map fun _ => v) ((cellsC c).map cellP) ((cellsC c).map fun _ => v) = _ from mg_new v _ _]
      refine dcN2_cells g v hD hg ds _ (fun x hx => hu x (List.mem_cons_of_mem _ hx)) (fun x hx => ?_) (addLs_nd nd) (fun x hx => h x (List.mem_cons_of_mem _ hx)) ?_
      · rcases addLs_mem.mp hx with z | z
        · exact hJ x z
        · exact cells_in hc.2 hc.1 x z
      · have : addLs (addLs J (cellsC c)) (ds.flatMap cellsC) = addLs J ((c :: ds).flatMap cellsC) := by
          unfold addLs
          rw [List.flatMap_cons, List.foldl_append]
        rw [this]
        exact q
theorem isN.has {S S' : Sto} {a : Addr} {ks xs : List Pv} (h : isN S a ks xs) (hs : Has S S') : isN S' a ks xs := h.imp (hs _ _) fun ⟨o, vs, us, z⟩ => ⟨o, vs, us, hs _ _ z⟩
end PL

namespace PL
open PySem PySem.Spec PyProof.Rows L2 PLS PLN
theorem up_nil : Up 4 [] := ⟨Nat.zero_le _, fun x hx => nomatch hx⟩
theorem cof_len4 : ∀ (n : Nat) (G : Cel → Bool) (ds : Cd), Up 4 ds → (cofC n G ds).length ≤ 4 ^ (4 - ds.length)
  | 0, _, _, _ => Nat.zero_le _
  | n + 1, G, ds, hu => by
    unfold cofC
    split
    · exact Nat.pow_pos (by decide)
    · rename_i h1
      split
      · exact Nat.zero_le _
      · rename_i h2
        by_cases h4 : ds.length < 4
        · have h : ∀ s, s ∈ kidsC → (cofC n G (ds ++ [s])).length ≤ 4 ^ (3 - ds.length) := fun s hs => by
            have := cof_len4 n G (ds ++ [s]) (up_kid hu h4 (kid_lt hs))
            rw [List.length_append, List.length_singleton] at this
            rwa [show 4 - (ds.length + 1) = 3 - ds.length by omega] at this
          have e : 4 ^ (4 - ds.length) = 4 * 4 ^ (3 - ds.length) := by
            rw [show 4 - ds.length = (3 - ds.length) + 1 by omega, Nat.pow_succ]; omega
          show ((cofC n G (ds ++ [0])) ++ ((cofC n G (ds ++ [1])) ++ ((cofC n G (ds ++ [2])) ++ ((cofC n G (ds ++ [3])) ++ [])))).length ≤ _
          simp only [List.length_append, List.length_nil]
          have h0 := h 0 (by decide)
          have h1 := h 1 (by decide)
          have h2 := h 2 (by decide)
          have h3 := h 3 (by decide)
          omega
        · exfalso
          have hl : ds.length = 4 := by have := hu.1; omega
          have hone : cellsC ds = [(bkX ds, bkY ds)] := by
            unfold cellsC
            rw [show bkM ds = 1 by unfold bkM; rw [hl]]
            rfl
          rw [hone] at h1 h2
          simp only [List.all_cons, List.all_nil, Bool.and_true, List.any_cons, List.any_nil, Bool.or_false] at h1 h2
          cases e : G (bkX ds, bkY ds)
          · exact h2 e
          · exact h1 e
end PL

namespace PLN
open PySem PySem.Spec PyProof.Rows L2 PLS PL
section
variable {X : Cx} {e : Expr} {te : TE} {p apos cpos pos : Pos}
end
end PLN
namespace PL
open PySem PySem.Spec PyProof.Rows L2 PLS PLN
section
variable {X : Cx} {S0 : Sto} {H0 : Hp} {e : Expr} {fe : PF} {p apos cpos pos : Pos}
end
end PL

namespace PL
open PySem PySem.Spec PyProof.Rows L2 PLS PLN
def getN (ks xs : List Pv) (k : Pv) : Option Pv := ((ks.zip xs).find? fun p => decide (toK p.1 = toK k)).map (·.2)
theorem get_repN {K : PySem.W.Frag} {H : Hp} {S : Sto} {k : Pv} : ∀ {ks xs : List Pv} {vs us : List V}, RepVs K H S ks vs → RepVs K H S xs us → ks.length = xs.length →
    (getN ks xs k = none ∧ getE (ents ks vs us) (toK k) = none) ∨ ∃ y w, getN ks xs k = some y ∧ getE (ents ks vs us) (toK k) = some w ∧ RepV K H S y w
  | [], [], _, us, h, _, _ => by
    have e : _ = [] := h
    rw [e]
    exact .inl ⟨rfl, rfl⟩
  | z :: ks, x :: xs, _, _, ⟨v, vs, e, h1, h2⟩, ⟨u, us, e', h1', h2'⟩, hl => by
    subst e e'
    have es : ents (z :: ks) (v :: vs) (u :: us) = (toK z, adr v, u) :: ents ks vs us := rfl
    rw [es]
    by_cases c : toK z = toK k
    · refine .inr ⟨x, u, ?_, ?_, h1'⟩
      · unfold getN
        rw [List.zip_cons_cons, List.find?_cons_of_pos (by simpa using c)]
        rfl
      · unfold getE
        rw [List.find?_cons_of_pos (by simpa using c)]
        rfl
    · have e1 : getN (z :: ks) (x :: xs) k = getN ks xs k := by
        unfold getN
        rw [List.zip_cons_cons, List.find?_cons_of_neg (by simpa using c)]
      have e2 : getE ((toK z, adr v, u) :: ents ks vs us) (toK k) = getE (ents ks vs us) (toK k) := by
        unfold getE
        rw [List.find?_cons_of_neg (by simpa using c)]
      rw [e1, e2]
      exact get_repN h2 h2' (by simpa using hl)
  | [], _ :: _, _, _, _, _, h => by cases h
  | _ :: _, [], _, _, _, _, h => by cases h
section
variable {X : Cx} {pins : List (Addr × Obj)} {σ : L2.St} {H : Hp} {s : Shared} {E : Value → Shared → Prop}
end
section
variable {X : Cx} {S0 : Sto} {H0 : Hp} {o i e f value : Expr} {td ty tx tv : TE} {pos pos' apos cpos : Pos}
def tNGet (K : PySem.W.Frag) (td ty : TE) : TE := fun σ H Q => td σ H fun x H1 => ty σ H1 fun y H2 => ∃ a b L k v, x = .ref a ∧ y = .ref b ∧ Rd H2 a (nkO a L) ∧ KEs K H2 L ∧ KV true K H2 k (.ref b) ∧ getE L k = some v ∧ Q v H2
theorem pe_nget (hu : X.A.units + 64 < cLine) (ho : PE X o td) (hi : PE X i ty) (hs : NoSl i) : PE X (.Subscript o i pos) (tNGet X.K td ty) := by
  refine ⟨fun pins s σ H Q I h => ?_⟩
  refine subD_of PySem.F.slot_dict_getitem.lookup hs (thn (ho.run pins s σ H _ I h) fun u s1 ⟨x, H1, I1, rx, q1⟩ => thn (hi.run pins s1 σ H1 _ I1 q1) fun iv s2 ⟨y, H2, I2, ry, a, b, L, k, v, ex, ey, hd, hk, hb, g, q2⟩ => ?_)
  subst ex ey
  obtain rfl : u = Value.ref a := rx
  obtain rfl : iv = Value.ref b := ry
  exact ⟨(nk_type I2 hd).1, nk_getItem hu I2 hd hk hb g fun s3 w I3 rw' => ⟨v, H2, I3, rw', q2⟩⟩
def sNPut (K : PySem.W.Frag) (td ty tv : TE) : TS := fun D σ H => tv σ H fun v H1 => td σ H1 fun x H2 => ty σ H2 fun y H3 => ∃ a b L k, x = .ref a ∧ y = .ref b ∧ H3 a = some (nkO a L) ∧ KEs K H3 L ∧ intK k = true ∧ KV true K H3 k (.ref b) ∧ L.length < sizeLine ∧ D.nx σ (upd H3 a (nkO a (putE L k b v)))
theorem ps_nput (hu : X.A.units + 64 < cLine) (ho : PE X o td) (hi : PE X i ty) (hv : PE X value tv) (hs : swapsWith value (some (.Subscript o i pos')) pos.line X.env = pure false) :
    PS X (.Assign [.Subscript o i pos'] value pos) (sNPut X.K td ty tv) := by
  refine ⟨fun pins s σ H D I h => ?_⟩
  refine wpAny_Assign_Subscript (thn (hv.run pins s σ H _ I h) fun r s1 ⟨v, H1, I1, rv, q1⟩ => thn (ho.run pins s1 σ H1 _ I1 q1) fun u s2 ⟨x, H2, I2, rx, q2⟩ => thn (hi.run pins s2 σ H2 _ I2 q2) fun iv s3 ⟨y, H3, I3, ry, a, b, L, k, ex, ey, hd, hk, hi2, hb, hz, q3⟩ => ?_) hs
  subst ex ey
  obtain rfl : u = Value.ref a := rx
  obtain rfl : iv = Value.ref b := ry
  exact nk_setItem hu I3 hd hk hi2 hb hz rv fun s4 I4 => ⟨σ, _, I4, q3⟩
def tDNewN : TE := fun _ H Q => ∀ d, H d = none → Q (.ref d) (upd H d (nkO d []))
theorem pe_dnewN : PE X (.Dict [] [] pos) tDNewN := ⟨fun pins s σ H Q I h =>
  wpAny_Dict_empty ⟨.ref s.heap.objs.size, _, I.laid (a := s.heap.objs.size) (o := nkO s.heap.objs.size []) (t' := s.toks) (fun _ _ q => Heap.get?_push_of_some _ q) (Nat.le_refl _) (nkO_new (nk_empty X.w s.heap I.big)), rfl, h _ (I.hok.fresh (Nat.le_refl _))⟩⟩
end
section
variable {X : Cx} {S0 : Sto} {H0 : Hp} {o i e f value : Expr} {fo fi fe ff fv fd fk fx : PF} {pos pos' apos cpos : Pos}
def oNGet : O2 := fun x k S Q => ∃ a ks xs v, x = .ref a ∧ isN S a ks xs ∧ keysN ks ∧ ks.length = xs.length ∧ keyN k ∧ getN ks xs k = some v ∧ Q v S
theorem pv_nget (hu : X.A.units + 64 < cLine) (ho : PV X S0 H0 o fo) (hi : PV X S0 H0 i fi) (hs : NoSl i := by intro _ _; rfl) : PV X S0 H0 (.Subscript o i pos) (f2 oNGet fo fi) := by
  refine ⟨fun ρ S Q Q' h q => ho.mono _ _ _ _ (fun x S1 q => hi.mono _ _ _ _ (fun k S2 ⟨a, ks, xs, v, h1, h2, h3, h4, h5, h6, q⟩ => ⟨a, ks, xs, v, h1, h2, h3, h4, h5, h6, h _ _ q⟩) q) q, PE.imp (pe_nget hu ho.pe hi.pe hs) fun σ H Q ⟨ρ, S, re, rs, ex, q⟩ => ?_⟩
  refine ⟨ρ, S, re, rs, ex, ho.mono _ _ _ _ (fun x S1 q v H1 rx rs1 ex1 => ?_) q⟩
  refine ⟨ρ, S1, re.ext rs ex1, rs1, ex.trans ex1, hi.mono _ _ _ _ (fun k S2 q kv H2 rk rs2 ex2 => ?_) q⟩
  obtain ⟨a, ks, xs, y, rfl, h2, h3, h4, h5, h6, q⟩ := q
  obtain ⟨vs, us, hd, r1, r2⟩ := rs2.isN h2
  have kv' := h5.1.kv rk
  obtain ⟨⟨b, rfl⟩, _, _⟩ := id kv'
  rcases get_repN (k := k) r1 r2 h4 with ⟨g1, _⟩ | ⟨y', w, g1, g2, g3⟩
  · rw [g1] at h6; cases h6
  · rw [g1] at h6
    cases h6
    exact ⟨a, b, ents ks vs us, toK k, w, rx, rfl, hd, kes_of h3 r1, kv', g2, q w H2 g3 rs2 (ex1.trans ex2)⟩
def gPutN (fv fd fk : PF) : PFS := fun D ρ S => fv ρ S fun v S1 => fd ρ S1 fun x S2 => fk ρ S2 fun k S3 => ∃ a ks xs, x = .ref a ∧ S3 a = some (nkM a ks xs) ∧ keysN ks ∧ ks.length = xs.length ∧ keyN k ∧ ks.length < sizeLine ∧ D.nx ρ (put S3 a (nkM a (putN ks xs k v).1 (putN ks xs k v).2))
theorem pz_putN (hu : X.A.units + 64 < cLine) (hv : PV X S0 H0 value fv) (ho : PV X S0 H0 o fd) (hi : PV X S0 H0 i fk) (hs : swapsWith value (some (.Subscript o i pos')) pos.line X.env = pure false := by rfl) : PZ X S0 H0 (.Assign [.Subscript o i pos'] value pos) (gPutN fv fd fk) := by
  refine ⟨fun D D' ρ S l q => hv.mono _ _ _ _ (fun v S1 q => ho.mono _ _ _ _ (fun x S2 q => hi.mono _ _ _ _ (fun k S3 ⟨a, ks, xs, h1, h2, h3, h4, h5, h6, q⟩ => ⟨a, ks, xs, h1, h2, h3, h4, h5, h6, l.1 _ _ q⟩) q) q) q, PS.imp (ps_nput hu ho.pe hi.pe hv.pe hs) fun D σ H ⟨ρ, S, re, rs, ex, q⟩ => ?_⟩
  refine ⟨ρ, S, re, rs, ex, hv.mono _ _ _ _ (fun p S1 q v H1 rv rs1 ex1 => ?_) q⟩
  refine ⟨ρ, S1, re.ext rs ex1, rs1, ex.trans ex1, ho.mono _ _ _ _ (fun x S2 q xv H2 rx rs2 ex2 => ?_) q⟩
  have e2 := ex1.trans ex2
  refine ⟨ρ, S2, re.ext rs e2, rs2, ex.trans e2, hi.mono _ _ _ _ (fun y S3 q yv H3 ry rs3 ex3 => ?_) q⟩
  have e3 := e2.trans ex3
  obtain ⟨a, ks, xs, rfl, h2, h3, h4, h5, h6, q⟩ := q
  obtain ⟨vs, us, hd, r1, r2⟩ := rs3.nk h2
  have rv3 := RepV.ext rs1 (ex2.trans ex3) p v rv
  have kv' := h5.1.kv ry
  obtain ⟨p1, p2, vs', us', p3, p4, p5⟩ := put_repN h5 h3 ry rv3 r1 r2 h4
  obtain ⟨⟨b, rfl⟩, _, _⟩ := id kv'
  have l1 := ents_len r1.len (r2.len.trans h4.symm)
  refine ⟨a, b, ents ks vs us, toK y, rx, rfl, hd, kes_of h3 r1, h5.2, kv', by rw [l1]; exact h6, ?_⟩
  have en := e3.trans (Ext.chg (H := H3) (m' := nkM a (putN ks xs y p).1 (putN ks xs y p).2) (o := nkO a (ents (putN ks xs y p).1 vs' us')) h2)
  have rsn := rs3.chgN h2 p4 p5
  rw [show putE (ents ks vs us) (toK y) b v = ents (putN ks xs y p).1 vs' us' from p3.symm]
  exact q σ _ (re.ext rs en) rsn en
def fDictN : PF := fun _ S Q => ∀ a, S a = none → Q (.ref a) (put S a (nkM a [] []))
theorem pv_dictN : PV X S0 H0 (.Dict [] [] pos) fDictN := by
  refine ⟨fun _ _ _ _ h q a ha => h _ _ (q a ha), PE.imp pe_dnewN fun σ H Q ⟨ρ, S, re, rs, ex, q⟩ d nd => ?_⟩
  refine q d (rs.fr nd) _ _ rfl (rs.newN nd) ⟨fun x o hx hs => by rw [upd_ne (ne_of_none hx nd)]; exact hx, fun x hx => ?_⟩
  by_cases z : x = d
  · subst z; exact .inr nd
  · rw [put_ne z] at hx; exact .inl hx
def scV : Pv → Option V
  | .non => some .non
  | .bl b => some (.bl b)
  | .int i => some (.int i)
  | .str z => some (.str z)
  | _ => none
theorem scV_rep {K : PySem.W.Frag} {H : Hp} {S : Sto} {p : Pv} {w : V} (h : scV p = some w) : RepV K H S p w := by
  cases p with
  | non => cases h; exact rfl
  | bl b => cases h; exact rfl
  | int i => cases h; exact rfl
  | str z => cases h; exact rfl
  | _ => cases h
theorem scV_is {K : PySem.W.Frag} {H : Hp} {S : Sto} {p : Pv} {v : V} (h : (scV p).isSome = true) (r : RepV K H S p v) : scV p = some v := by
  cases p with
  | non => have e : v = _ := r; rw [e]; rfl
  | bl b => have e : v = _ := r; rw [e]; rfl
  | int i => have e : v = _ := r; rw [e]; rfl
  | str z => have e : v = _ := r; rw [e]; rfl
  | _ => cases h
theorem scVs_is {K : PySem.W.Frag} {H : Hp} {S : Sto} : ∀ {xs : List Pv} {us : List V}, RepVs K H S xs us → (∀ x ∈ xs, (scV x).isSome = true) → us.map some = xs.map scV
  | [], _, h, _ => by
    have e : _ = [] := h
    rw [e]; rfl
  | x :: xs, _, ⟨u, us, e, h1, h2⟩, h => by
    subst e
    rw [List.map_cons, List.map_cons, scV_is (h x List.mem_cons_self) h1, scVs_is h2 fun y hy => h y (List.mem_cons_of_mem _ hy)]
def lkE (a : Addr) (o : Obj) (kvs : List (Key × V)) (ks xs : List Pv) (D : Ends') : Ends' :=
  { nx := fun ρ' S' => S' a = some (.lck o kvs) ∧ D.nx ρ' (put S' a (.dct ks xs))
    rt := fun p S' => S' a = some (.lck o kvs) ∧ D.rt p (put S' a (.dct ks xs))
    bk := fun ρ' S' => S' a = some (.lck o kvs) ∧ D.bk ρ' (put S' a (.dct ks xs))
    ct := fun ρ' S' => S' a = some (.lck o kvs) ∧ D.ct ρ' (put S' a (.dct ks xs)) }
theorem lkE_le {a : Addr} {o : Obj} {kvs : List (Key × V)} {ks xs : List Pv} {D D' : Ends'} (h : D.le D') : (lkE a o kvs ks xs D).le (lkE a o kvs ks xs D') :=
  ⟨fun _ _ q => ⟨q.1, h.1 _ _ q.2⟩, fun _ _ q => ⟨q.1, h.2.1 _ _ q.2⟩, fun _ _ q => ⟨q.1, h.2.2.1 _ _ q.2⟩, fun _ _ q => ⟨q.1, h.2.2.2 _ _ q.2⟩⟩
def gLockD (n : Nat) (g : PFS) : PFS := fun D ρ S => match ρ.getD n none with
  | some (.ref a) => (match S a with
    | some (.dct ks xs) => kysOk ks ∧ (∀ x ∈ xs, (scV x).isSome = true) ∧ ∀ o kvs, (kvs.map fun kv => kPv kv.1) = ks → (kvs.map fun kv => some kv.2) = xs.map scV → g (lkE a o kvs ks xs D) ρ (put S a (.lck o kvs))
    | _ => False)
  | _ => False
theorem pz_lockD (n : Nat) {st : Stmt} {g : PFS} (h : PZ X S0 H0 st g) : PZ X S0 H0 st (gLockD n g) := by
  refine ⟨fun D D' ρ S l q => ?_, PS.imp (ps_lock h.ps) fun D σ H ⟨ρ, S, re, rs, ex, q⟩ => ?_⟩
  · unfold gLockD at q ⊢
    split at q
    · split at q
      · exact ⟨q.1, q.2.1, fun o kvs h1 h2 => h.mono _ _ _ _ (lkE_le l) (q.2.2 o kvs h1 h2)⟩
      · exact q
    · exact q
  · unfold gLockD at q
    split at q
    · rename_i a _
      split at q
      · rename_i ks xs e1
        obtain ⟨ok, oks, q⟩ := q
        obtain ⟨kvs, e2, r1, r2⟩ := rs a _ e1
        refine ⟨a, .dK kvs, e2, True.intro, fun od => ?_⟩
        have e := Ext.chg (H := H) (m' := .lck od kvs) (o := .frz od (.dK kvs)) e1
        have rs1 : RepS X.K (upd H a (.frz od (.dK kvs))) (put S a (.lck od kvs)) := rs.chgX e1 upd_same
        refine ⟨ρ, put S a (.lck od kvs), re.ext rs e, rs1, ex.trans e, h.mono _ _ _ _ ?_ (q od kvs (keys_kPv (keys_rep r1 ok)).symm (by rw [← scVs_is r2 oks, List.map_map]; rfl))⟩
        have fin : ∀ {S2 : Sto} {H2 : Hp}, S2 a = some (.lck od kvs) → RepS X.K H2 S2 → Ext (put S a (.lck od kvs)) (upd H a (.frz od (.dK kvs))) S2 H2 → H2 a = some (.frz od (.dK kvs)) ∧ RepS X.K (upd H2 a (.dK kvs)) (put S2 a (.dct ks xs)) ∧ Ext S2 H2 (put S2 a (.dct ks xs)) (upd H2 a (.dK kvs)) ∧ Ext S H (put S2 a (.dct ks xs)) (upd H2 a (.dK kvs)) := fun {S2 H2} q1 rs2 ex2 => by
          have e3 := Ext.chg (H := H2) (m' := .dct ks xs) (o := .dK kvs) q1
          have e4 := (e.trans ex2).trans e3
          exact ⟨rs2 a _ q1, rs2.chgX q1 ⟨kvs, upd_same, RepVs.ext rs e4 _ _ r1, RepVs.ext rs e4 _ _ r2⟩, e3, e4⟩
        refine ⟨fun ρ' S' q σ' H' a1 a2 a3 => ?_, fun p S' q v H' a1 a2 a3 => ?_, fun ρ' S' q σ' H' a1 a2 a3 => ?_, fun ρ' S' q σ' H' a1 a2 a3 => ?_⟩
        · obtain ⟨f1, f2, f3, f4⟩ := fin q.1 a2 a3
          exact ⟨f1, q.2 σ' _ (a1.ext a2 f3) f2 f4⟩
        · obtain ⟨f1, f2, f3, f4⟩ := fin q.1 a2 a3
          exact ⟨f1, q.2 v _ (RepV.ext a2 f3 p v a1) f2 f4⟩
        · obtain ⟨f1, f2, f3, f4⟩ := fin q.1 a2 a3
          exact ⟨f1, q.2 σ' _ (a1.ext a2 f3) f2 f4⟩
        · obtain ⟨f1, f2, f3, f4⟩ := fin q.1 a2 a3
          exact ⟨f1, q.2 σ' _ (a1.ext a2 f3) f2 f4⟩
      · exact q.elim
    · exact q.elim
def oDGetL : O2 := fun x k S Q => ∃ a o kvs key v w, x = .ref a ∧ S a = some (.lck o kvs) ∧ kyP k = some key ∧ valV kvs key = some w ∧ scV v = some w ∧ Q v S
theorem pv_dgetL (hu : X.A.units + 64 < cLine) (ho : PV X S0 H0 o fo) (hi : PV X S0 H0 i fi) (hs : NoSl i := by intro _ _; rfl) : PV X S0 H0 (.Subscript o i pos) (f2 oDGetL fo fi) := by
  refine ⟨fun ρ S Q Q' h q => ho.mono _ _ _ _ (fun x S1 q => hi.mono _ _ _ _ (fun k S2 ⟨a, oo, kvs, key, v, w, h1, h2, h3, h4, h5, q⟩ => ⟨a, oo, kvs, key, v, w, h1, h2, h3, h4, h5, h _ _ q⟩) q) q, PE.imp (pe_dget (by omega) ho.pe hi.pe hs) fun σ H Q ⟨ρ, S, re, rs, ex, q⟩ => ?_⟩
  refine ⟨ρ, S, re, rs, ex, ho.mono _ _ _ _ (fun x S1 q v H1 rx rs1 ex1 => ?_) q⟩
  refine ⟨ρ, S1, re.ext rs ex1, rs1, ex.trans ex1, hi.mono _ _ _ _ (fun k S2 q kv H2 rk rs2 ex2 => ?_) q⟩
  obtain ⟨a, oo, kvs, key, y, w, rfl, h2, h3, h4, h5, q⟩ := q
  exact ⟨a, w, rx, .inl ⟨kvs, key, .inr ⟨oo, rs2 a _ h2⟩, kyP_rep h3 rk, h4.symm⟩, q w H2 (scV_rep h5) rs2 (ex1.trans ex2)⟩
end
end PL

namespace PLN
open PySem PySem.Spec PyProof.Rows L2 PLS PL
def DHatW (w : World) (h : Heap) (a : Addr) (xs : List EntHN) : Prop := ∃ o es ep, h.get? a = some o ∧ o.ExactDict ∧ o.data = .dict es ep ∧ es.toList = xs.map (hEnt w) ∧ (xs.map (·.1)).Nodup
theorem ofw_dh {P : Program} {w : World} {h : Heap} {a : Addr} {xs : List EntHN} (x : h.DictOfH (nestedKind P w) a xs) : DHatW w h a xs :=
  let ⟨o, es, ep, ho, hc, hd, he, _, hn⟩ := x; ⟨o, es, ep, ho, hc, hd, he, hn⟩
theorem dhw_of {P : Program} {w : World} {h : Heap} {a : Addr} {xs : List EntHN} (x : DHatW w h a xs) (his : ∀ p ∈ xs, (nestedKind P w).is h p.1 p.2.1) : h.DictOfH (nestedKind P w) a xs :=
  let ⟨o, es, ep, ho, hc, hd, he, hn⟩ := x; ⟨o, es, ep, ho, hc, hd, he, his, hn⟩
def NwAt (w : World) (a : Addr) (L : List EntN) (h : Heap) : Prop := (a == sysModules) = false ∧ L.length ≤ sizeLine ∧ ∃ xs, Paired RelE L xs ∧ DHatW w h a xs
def nwO (w : World) (a : Addr) (L : List EntN) : HO := .ext (NwAt w a L)
theorem nwO_new {P : Program} {w w' : World} {H : Hp} {h : Heap} {a : Addr} {L : List EntN} (R : NwAt w a L h) : ObjOk P w' H h a (nwO w a L) := by
  obtain ⟨_, _, xs, _, o, _, _, ho, _⟩ := id R
  refine ⟨R, ⟨o, ho⟩, fun h1 h2 p q => ?_⟩
  obtain ⟨p1, p2, xs, p4, o, es, ep, ho, r⟩ := p
  exact ⟨p1, p2, xs, p4, o, es, ep, q o ho, r⟩
theorem nw_code {w : World} {a b : Addr} {q : Str} {L : List EntN} : nwO w a L ≠ LamX.CodeO b q := fun e => by
  have e2 := HO.ext.inj e
  let ob : Obj := { cls := .type "code", data := .fields #[.none, .str q 0] }
  have g : ∀ d, d ≤ max a b → Heap.get? ⟨Array.replicate (max a b + 1) ob, {}⟩ d = some ob := fun d hd => by
    unfold Heap.get?
    simp [ob, Nat.lt_succ_of_le hd]
  have h := congrFun e2 (⟨Array.replicate (max a b + 1) ob, {}⟩ : Heap)
  have hs : NwAt w a L (⟨Array.replicate (max a b + 1) ob, {}⟩ : Heap) := by
    rw [h]
    exact ⟨ob, _, 0, g b (Nat.le_max_right a b), rfl, rfl⟩
  obtain ⟨_, _, xs, _, o, es, ep, ho, _, hd, _⟩ := hs
  rw [g a (Nat.le_max_left a b)] at ho
  cases ho
  cases hd
theorem nw_ob {w : World} {a : Addr} {L : List EntN} : obO (nwO w a L) := .inl ⟨⟨_, rfl⟩, fun _ _ => nw_code⟩
theorem nw_obF {w : World} {o : Obj} {a : Addr} {L : List EntN} : obO (.frz o (nwO w a L)) := .inr (.inl ⟨_, _, rfl⟩)
section
variable {X : Cx} {pins : List (Addr × Obj)} {σ : L2.St} {H : Hp} {s : Shared} {E : Value → Shared → Prop}
theorem nw_at (I : Inv X pins σ H s) {w : World} {a : Addr} {L : List EntN} (h : Rd H a (nwO w a L)) : NwAt w a L s.heap := by
  rcases h with h | ⟨o, h⟩
  · exact (I.hok a _ h).1
  · exact (I.hok a _ h).2.1
theorem nw_rd (I : Inv X pins σ H s) {a : Addr} {L : List EntN} (h : Rd H a (nwO X.w a L)) (hk : KEs X.K H L) : (a == sysModules) = false ∧ L.length ≤ sizeLine ∧ ∃ xs, Paired RelE L xs ∧ s.heap.DictOfH (nestedKind X.prog X.w) a xs := by
  obtain ⟨h1, h2, xs, h4, h5⟩ := nw_at I h
  refine ⟨h1, h2, xs, h4, dhw_of h5 fun p hp => ?_⟩
  obtain ⟨e, he, r⟩ := paired_mem h4 p hp
  rw [← r.1, ← r.2.1]
  exact KV.is I (hk e he)
theorem nw_setdefault {D b : Addr} {L : List EntN} {k : NestedKey} {v : V} {r : Value} {Q : Value → Shared → Prop} (hu : X.A.units + 64 < cLine) (I : Inv X pins σ H s) (hD : H D = some (nwO X.w D L)) (hk : KEs X.K H L) (hb : KV true X.K H k (.ref b)) (hz : L.length < sizeLine)
    (rv : RelV v r) (h1 : ∀ y u s', getE L k = some y → RelV y u → Inv X pins σ H s' → Q u s') (h2 : getE L k = none → ∀ s', Inv X pins σ (upd H D (nwO X.w D (L ++ [(k, b, v)]))) s' → Q r s') :
    wpAny (model X.prog X.w) X.A (call (.builtin "dict.setdefault") [.ref D, .ref b, r]) Q E s := by
  obtain ⟨g1, g2, xs, p, dd⟩ := nw_rd I (.inl hD) hk
  refine call_setdefault_heap (hsz := by rw [← paired_len p]; exact g2) (show X.A.units + 1 + 8 < cLine by omega) (KV.is I hb) g1 dd (fun q hq => ?_) fun hn h' dd' sb => ?_
  · rcases paired_getE p k with ⟨_, i2⟩ | ⟨v', y, i1, i2, i3⟩
    · rw [i2] at hq; cases hq
    · rw [i2] at hq; cases hq
      exact h1 _ _ _ i1 i3 (I.tok _)
  · rcases paired_getE p k with ⟨i1, _⟩ | ⟨v', y, _, i2, _⟩
    · refine h2 i1 _ ?_
      have he : ∃ q, h'.get? D = some q := let ⟨q, _, _, hq, _⟩ := dd'; ⟨q, hq⟩
      rw [storedH_new hn] at dd'
      exact I.write (e := D) (by rw [hD]; trivial) (.inl rfl) (fun b' o hb ho => (sb.2 b' hb).trans ho) he
        (nwO_new ⟨g1, by rw [List.length_append]; exact hz, _, Paired.snoc p ⟨rfl, rfl, rv⟩, ofw_dh dd'⟩)
    · rw [i2] at hn; cases hn
theorem nw_empty (w : World) (h : Heap) (hb : sysModules < h.objs.size) : NwAt w h.objs.size [] (h.push { cls := .type "dict", data := .dict #[] }) :=
  ⟨by rw [beq_eq_false_iff_ne]; exact Nat.ne_of_gt hb, Nat.zero_le _, [], .nil, _, #[], 0, Heap.get?_push_size _ rfl, ⟨rfl, rfl, rfl⟩, rfl, rfl, List.nodup_nil⟩
theorem nw_type {w : World} {a : Addr} {L : List EntN} (I : Inv X pins σ H s) (h : Rd H a (nwO w a L)) : s.TypeIs (.ref a) "dict" ∧ ∀ b, Value.ref a = .ref b → ∃ ob, s.heap.get? b = some ob ∧ ob.dict = none := by
  obtain ⟨_, _, xs, _, o, es, ep, ho, hx, _⟩ := nw_at I h
  exact ⟨⟨o, ho, hx.1⟩, fun b e => by cases e; exact ⟨o, ho, hx.2.1⟩⟩
theorem nw_frz {w : World} {d : Addr} {o : Obj} {L : List EntN} (I : Inv X pins σ H s) (h : H d = some (.frz o (nwO w d L))) : (d == sysModules) = false ∧ s.heap.get? d = some o ∧ o.ExactDict ∧ ∃ (es : Array DictEntry) (ep : Nat), o.data = .dict es ep ∧ es.size = L.length ∧
    ∀ (i : Nat) (hi : i < es.size) (k : NestedKey) (b : Addr) (v : V), L[i]? = some (k, b, v) → es[i].key = .ref b ∧ RelV v es[i].val := by
  have x := I.hok d _ h
  obtain ⟨hd, ⟨h1, h2, xs, p, o', es, ep, ho, hx, hdt, he, hn⟩, _⟩ := x
  rw [hd] at ho
  cases ho
  have hl : es.size = xs.length := by
    rw [← Array.length_toList, he, List.length_map]
  refine ⟨h1, hd, hx, es, ep, hdt, by rw [hl, paired_len p], fun i hi k b v e => ?_⟩
  obtain ⟨y, hy, r⟩ := paired_getN p e
  have e2 : es[i]? = some (hEnt w y) := by
    rw [← Array.getElem?_toList, he, List.getElem?_map, hy]
    rfl
  rw [Array.getElem?_eq_getElem hi] at e2
  have e3 := Option.some.inj e2
  rw [e3]
  exact ⟨by rw [show (hEnt w y).key = .ref y.2.1 from rfl, ← r.2.1], r.2.2⟩
end
def ItiW (wo : World) (d : Addr) (o : Obj) (L : List EntN) : It :=
  ⟨fun i H => H d = some (.frz o (nwO wo d L)) ∧ i < L.length, fun i H x H' => ∃ T k b v, L[i]? = some (k, b, v) ∧ x = .ref T ∧ H T = none ∧ H' = upd H T (.tup [.ref b, v]), fun i H => H d = some (.frz o (nwO wo d L)) ∧ L.length ≤ i⟩
section
variable {P : Program} {w : World} {K : PySem.W.Frag} {tg : Expr} {d : Addr} {o : Obj} {es : Array DictEntry} {ep : Nat}
theorem turn_itemsW {wo : World} {L : List EntN} {elts : List Expr} {kk : Nat} {tpos : Pos} (it : Addr) (hod : o.data = .dict es ep) :
    Turn P w K (.Tuple elts kk tpos) (ItiW wo d o L) [it] it (fun i h => ∃ ok ov, IsItemIter h it d i L.length ep ok ov) where
  mem := by simp
  obj := fun i h st b hb => by
    have e : b = it := by simpa using hb
    subst e
    obtain ⟨ok, ov, e⟩ := st
    exact ⟨_, e, fun v z => nomatch z⟩
  keep := fun i h h' st k => let ⟨ok, ov, e⟩ := st; ⟨ok, ov, k it (by simp) _ e⟩
  item := by
    intro X hP hw hK hc i pins s σ H E I hf st hg
    subst hP hw hK
    obtain ⟨hd, hi⟩ := hg
    obtain ⟨hs, hgd, hx, es', ep', hdt, hsz, ent⟩ := nw_frz I hd
    obtain ⟨rfl, rfl⟩ := dict_ep hod hdt
    obtain ⟨ok, ov, he⟩ := st
    have hlt : it < s.heap.objs.size := Heap.lt_size he
    rw [← hsz] at he hi
    have hL : i < L.length := by rw [← hsz]; exact hi
    obtain ⟨e1, e2⟩ := ent i hi L[i].1 L[i].2.1 L[i].2.2 (List.getElem?_eq_getElem hL)
    refine wpAny_pyNext_items_item_raw he ⟨o, hgd, hx, hdt⟩ hi fun h' ho hT hz hk => ?_
    refine ⟨_, rfl, wpAny_letOwnedTupleGo_items (s := { s with heap := h' }) ho fun h'' he' sb => ?_⟩
    have hT2 := (sb.2 _ (Nat.ne_of_gt hlt)).trans hT
    have new : ObjOk X.prog X.w (upd H s.heap.objs.size (.tup [.ref L[i].2.1, L[i].2.2])) h'' s.heap.objs.size (.tup [.ref L[i].2.1, L[i].2.2]) :=
      ⟨by show 2 ≤ sizeLine; decide, [es'[i].key, es'[i].val], .cons e1 (.cons e2 .nil), ⟨_, hT2, rfl, _, rfl⟩⟩
    have I1 : Inv X pins σ (upd H s.heap.objs.size (.tup [.ref L[i].2.1, L[i].2.2])) { s with heap := h'' } :=
      I.turnedNew (t' := s.toks) (ch := [it]) (fun b ob hb e => (sb.2 b (by simpa using hb)).trans (hk b ob (by simpa using hb) e)) hf (Nat.le_refl _) new
    refine ⟨.ref s.heap.objs.size, _, I1, rfl, ⟨_, _, _, _, List.getElem?_eq_getElem hL, rfl, I.hok.fresh (Nat.le_refl _), rfl⟩, ⟨es'[i].key, es'[i].val, ?_⟩, fun b hb => ?_⟩
    · rw [← hsz]; exact he'
    · have e : b = it := by simpa using hb
      rw [e, upd_ne (Nat.ne_of_lt hlt)]
      exact (hf it (by simp)).1
  done := by
    intro X hP hw hK hc i pins s σ H E I hf st hg
    subst hP hw hK
    obtain ⟨hd, hi⟩ := hg
    obtain ⟨f0, f1, f2, f3, f4, f5⟩ := hf it (by simp)
    obtain ⟨hs, hgd, hx, es', ep', hdt, hsz, ent⟩ := nw_frz I hd
    obtain ⟨rfl, rfl⟩ := dict_ep hod hdt
    obtain ⟨ok, ov, he⟩ := st
    rw [← hsz] at he hi
    exact wpAny_pyNext_items_end_raw (I.ok.hd hc) he ⟨o, hgd, hx, hdt⟩ hi fun h' eb => ⟨rfl, I.turned (t' := s.toks) (fun b ob hb e => eb b ob hb e) f0 f1 f3 f4 f5⟩
  self := fun A i s Q E st h => let ⟨_, _, e⟩ := st; PySem.W.kcp_self e h
end
def iItemsW (wo : World) (td : TE) : TI := fun σ H R => td σ H fun x H1 => ∃ (d : Addr) (L : List EntN), x = .ref d ∧ ((H1 d = some (nwO wo d L) ∧ ∀ o, R (ItiW wo d o L) (upd H1 d (.frz o (nwO wo d L)))) ∨ ∃ o, H1 d = some (.frz o (nwO wo d L)) ∧ R (ItiW wo d o L) H1)
section
variable {X : Cx} {tg e i f : Expr} {td ty tx : TE} {pos apos cpos : Pos}
theorem nw_lock {wo : World} {pins : List (Addr × Obj)} {σ : L2.St} {H1 : Hp} {s1 : Shared} {d : Addr} {L : List EntN} {Y : Obj → Hp → Prop} (I1 : Inv X pins σ H1 s1) (q : (H1 d = some (nwO wo d L) ∧ ∀ o, Y o (upd H1 d (.frz o (nwO wo d L)))) ∨ ∃ o, H1 d = some (.frz o (nwO wo d L)) ∧ Y o H1) :
    ∃ o H2, Inv X pins σ H2 s1 ∧ H2 d = some (.frz o (nwO wo d L)) ∧ Y o H2 := by
  rcases q with ⟨h, q⟩ | ⟨o, h, q⟩
  · obtain ⟨o, I2⟩ := I1.lock h True.intro
    exact ⟨o, _, I2, upd_same, q o⟩
  · exact ⟨o, H1, I1, h, q⟩
theorem pi_itemsW {wo : World} {elts : List Expr} {kk : Nat} {tpos : Pos} (he : PE X e td) (hbase : attributeBase e "items" X.env (eval e X.env) = eval e X.env := by rfl) (hline : (apos.endLine == cpos.line) = true := by rfl) :
    PI X (.Tuple elts kk tpos) (.Call (.Attribute e "items" apos) [] [] cpos) (iItemsW wo td) := by
  refine ⟨fun pins s σ H R I h => ?_⟩
  refine wpAny_Call_method (T := "dict") (id := "dict.items") hbase rfl hline F.plainAttrs_dict F.slot_dict_items F.type_dict_items (thn (he.run pins s σ H _ I h) fun u s1 ⟨x, H1, I1, rx, d, L, ex, q⟩ => ?_)
  subst ex
  obtain rfl : u = Value.ref d := rx
  obtain ⟨o, H2, I2, hd, q⟩ := nw_lock I1 q
  obtain ⟨hs, hgd, hx, es, ep, hdt, hsz, ent⟩ := nw_frz I2 hd
  have ty := nw_type I2 (.inr ⟨o, hd⟩)
  refine ⟨ty.1, ty.2, ?_⟩
  have I3 : Inv X pins σ H2 { s1 with heap := s1.heap.push { cls := .type "dict_items", data := .fields #[.ref d] } } := I2.kept (t' := s1.toks) fun b ob q => Heap.get?_push_of_some _ q
  have raw : s1.heap.DictRaw d es ep := ⟨o, hgd, hx, hdt⟩
  have fin : wpAny (model X.prog X.w) X.A (pyIter (.ref s1.heap.objs.size)) (PIE X pins σ (.Tuple elts kk tpos) R) X.xe { s1 with heap := s1.heap.push { cls := .type "dict_items", data := .fields #[.ref d] } } := by
    refine wpAny_pyIter_items_raw (d := d) ⟨_, Heap.get?_push_size _ rfl, rfl, rfl⟩ (raw.at fun b e => Heap.get?_push_of_some _ e) (pi_one (tk := s1.toks) I3 _ (turn_itemsW _ hdt) ⟨.none, .none, ?_⟩ q)
    rw [← hsz]
    exact Heap.get?_push_size _ rfl
  show wpAny _ _ (callWith cpos (.builtin "dict.items") [.ref d] [] []) _ X.xe s1
  exact method_meetsIn F.slot_dict_items F.entry_dict_items rfl (PySem.evalArgs_none ⟨rfl, ty.1, F.args_dict_items_1 _, _, DT.meetsItems (es := es) (ep := ep) hs, ⟨raw, fin⟩⟩)
def tWSetd (K : PySem.W.Frag) (wo : World) (td ty tx : TE) : TE := fun σ H Q => td σ H fun x H1 => ∃ a, x = .ref a ∧ (∃ L, Rd H1 a (nwO wo a L)) ∧ ty σ H1 fun y H2 => tx σ H2 fun z H3 => ∃ b L k, y = .ref b ∧ H3 a = some (nwO wo a L) ∧ KEs K H3 L ∧ KV true K H3 k (.ref b) ∧ L.length < sizeLine ∧
  (∀ v, getE L k = some v → Q v H3) ∧ (getE L k = none → Q z (upd H3 a (nwO wo a (L ++ [(k, b, z)]))))
theorem pe_wsetd (hu : X.A.units + 64 < cLine) (ho : PE X e td) (he : PE X i ty) (hf : PE X f tx) (m : M2 X e "setdefault" apos i f cpos) : PE X (.Call (.Attribute e "setdefault" apos) [i, f] [] cpos) (tWSetd X.K X.w td ty tx) := by
  refine ⟨fun pins s σ H Q I h => ?_⟩
  refine wpAny_Call_method m.base m.few m.line PySem.F.plainAttrs_dict PySem.F.slot_dict_setdefault PySem.F.type_dict_setdefault (thn (ho.run pins s σ H _ I h) fun u s1 ⟨x, H1, I1, rx, a, ex, ⟨L0, d⟩, q1⟩ => ?_)
  subst ex
  obtain rfl : u = Value.ref a := rx
  obtain ⟨t1, t2⟩ := nw_type I1 d
  refine ⟨t1, t2, ?_⟩
  rw [m.trees]
  refine Calls.callWith_builtin rfl (Calls.evalArgs_plain (Calls.spliced_cons (thn (he.run pins s1 σ H1 _ I1 q1) fun iv s2 ⟨y, H2, I2, ry, q2⟩ =>
    Calls.spliced_cons (thn (hf.run pins s2 σ H2 _ I2 q2) fun fv s3 ⟨z, H3, I3, rz, b, L, k, ey, hd, hk, hb, hz, q3, q4⟩ => Calls.spliced_nil ?_))))
  subst ey
  obtain rfl : iv = Value.ref b := ry
  exact nw_setdefault hu I3 hd hk hb hz rz (fun y u s' g r I' => ⟨y, H3, I', r, q3 y g⟩) fun g s' I' => ⟨z, _, I', rz, q4 g⟩
def tDNewW (wo : World) : TE := fun _ H Q => ∀ d, H d = none → Q (.ref d) (upd H d (nwO wo d []))
theorem pe_dnewW {wo : World} : PE X (.Dict [] [] pos) (tDNewW wo) := ⟨fun pins s σ H Q I h =>
  wpAny_Dict_empty ⟨.ref s.heap.objs.size, _, I.laid (a := s.heap.objs.size) (o := nwO wo s.heap.objs.size []) (t' := s.toks) (fun _ _ q => Heap.get?_push_of_some _ q) (Nat.le_refl _) (nwO_new (nw_empty wo s.heap I.big)), rfl, h _ (I.hok.fresh (Nat.le_refl _))⟩⟩
end
end PLN
namespace PL
open PySem PySem.Spec PyProof.Rows L2 PLS PLN
def nwM (w : World) (D : Addr) (ks xs : List Pv) : Mo := .ob (fun vs us => nwO w D (ents ks vs us)) ks xs
def keysT (ks : List Pv) : Prop := ∀ z ∈ ks, kOk true z
noncomputable def nwF (w : World) (o : Obj) (D : Addr) (vs us : List V) (ks xs : List Pv) : Mo := .ob (fun vs' us' => thenO (vs' = vs ∧ us' = us) (.frz o (nwO w D (ents ks vs us)))) ks xs
theorem kes_ofW {K : PySem.W.Frag} {H : Hp} {S : Sto} : ∀ {ks : List Pv} {vs us : List V}, keysT ks → RepVs K H S ks vs → KEs K H (ents ks vs us)
  | [], _, _, _, _ => fun e he => by cases he
  | k :: ks, _, us, hk, ⟨v, r, e, h1, h2⟩ => by
    subst e
    cases us with
    | nil => exact fun e he => by cases he
    | cons u us =>
      intro e he
      rcases List.mem_cons.mp he with rfl | he
      · have kv := (hk k List.mem_cons_self).kv h1
        obtain ⟨⟨a, rfl⟩, _, _⟩ := id kv
        exact kv
      · exact kes_ofW (fun z hz => hk z (List.mem_cons_of_mem _ hz)) h2 e he
theorem ents_getW {K : PySem.W.Frag} {H : Hp} {S : Sto} : ∀ {ks xs : List Pv} {vs us : List V} {i : Nat} {k : NestedKey} {b : Addr} {u : V}, keysT ks → RepVs K H S ks vs → RepVs K H S xs us → (ents ks vs us)[i]? = some (k, b, u) → ∃ kp x, ks[i]? = some kp ∧ xs[i]? = some x ∧ RepV K H S kp (.ref b) ∧ RepV K H S x u
  | [], _, _, _, _, _, _, _, _, _, _, h => by simp [ents] at h
  | kp :: ks, [], _, _, _, _, _, _, _, ⟨v, vs, e, _⟩, h2, h => by
    have e2 : _ = [] := h2
    subst e e2
    simp [ents] at h
  | kp :: ks, x :: xs, _, _, i, k, b, u, hk, ⟨v, vs, e, h1, h1'⟩, ⟨w, us, e', h2, h2'⟩, h => by
    subst e e'
    cases i with
    | zero =>
      have h : some (toK kp, adr v, w) = some (k, b, u) := h
      cases h
      obtain ⟨⟨a, rfl⟩, _, _⟩ := (hk kp List.mem_cons_self).kv h1
      exact ⟨kp, x, rfl, rfl, h1, h2⟩
    | succ j =>
      have h : (ents ks vs us)[j]? = some (k, b, u) := h
      obtain ⟨kq, y, g1, g2, g3⟩ := ents_getW (ks := ks) (xs := xs) (fun z hz => hk z (List.mem_cons_of_mem _ hz)) h1' h2' h
      exact ⟨kq, y, g1, g2, g3⟩
section
variable {K : PySem.W.Frag} {H : Hp} {S : Sto} {D : Addr} {ks xs : List Pv} {w : World}
theorem RepS.nw (rs : RepS K H S) (h : S D = some (nwM w D ks xs)) : ∃ vs us, H D = some (nwO w D (ents ks vs us)) ∧ RepVs K H S ks vs ∧ RepVs K H S xs us := by
  obtain ⟨vs, us, e, _, r1, r2⟩ := rs D _ h
  exact ⟨vs, us, e, r1, r2⟩
theorem RepS.nwF (rs : RepS K H S) {o : Obj} {vs us : List V} (h : S D = some (PL.nwF w o D vs us ks xs)) : H D = some (.frz o (nwO w D (ents ks vs us))) ∧ RepVs K H S ks vs ∧ RepVs K H S xs us := by
  obtain ⟨vs', us', e, ob, r1, r2⟩ := rs D _ h
  have e : H D = some (thenO (vs' = vs ∧ us' = us) (.frz o (nwO w D (ents ks vs us)))) := e
  have ob : obO (thenO (vs' = vs ∧ us' = us) (.frz o (nwO w D (ents ks vs us)))) := ob
  by_cases z : vs' = vs ∧ us' = us
  · rw [then_yes z] at e
    obtain ⟨rfl, rfl⟩ := z
    exact ⟨e, r1, r2⟩
  · rw [then_no z] at ob
    rcases ob with ⟨⟨_, e⟩, _⟩ | ⟨_, _, e⟩ | ⟨_, _, _, e⟩ <;> cases e
theorem RepS.toFW {m : Mo} (rs : RepS K H S) (h : S D = some m) (o : Obj) {vs us : List V} (r1 : RepVs K H S ks vs) (r2 : RepVs K H S xs us) : RepS K (upd H D (.frz o (nwO w D (ents ks vs us)))) (put S D (PL.nwF w o D vs us ks xs)) := by
  have e := Ext.chg (H := H) (m' := PL.nwF w o D vs us ks xs) (o := .frz o (nwO w D (ents ks vs us))) h
  refine rs.chgX h ⟨vs, us, ?_, ?_, RepVs.ext rs e _ _ r1, RepVs.ext rs e _ _ r2⟩
  · show _ = some (thenO (vs = vs ∧ us = us) _)
    rw [then_yes ⟨rfl, rfl⟩]
    exact upd_same
  · show obO (thenO (vs = vs ∧ us = us) _)
    rw [then_yes ⟨rfl, rfl⟩]
    exact nw_obF
end
def fDictW (w : World) : PF := fun _ S Q => ∀ a, S a = none → Q (.ref a) (put S a (nwM w a [] []))
def lockW (w : World) (S : Sto) (a : Addr) (ks xs : List Pv) (Y : (Sto → Prop) → Sto → Prop) : Prop := (S a = some (nwM w a ks xs) ∧ ∀ o vs us, Y (fun S' => S' a = some (nwF w o a vs us ks xs)) (put S a (nwF w o a vs us ks xs))) ∨ ∃ o vs us, S a = some (nwF w o a vs us ks xs) ∧ Y (fun S' => S' a = some (nwF w o a vs us ks xs)) S
def fItemsW (w : World) (f : PF) : PFI := fun ρ S Q => f ρ S fun p S1 => ∃ a ks xs, p = .ref a ∧ keysT ks ∧ ks.length = xs.length ∧ lockW w S1 a ks xs fun gd S2 => Q (pairsP ks xs) gd S2
theorem lockW_mono {w : World} {S : Sto} {a : Addr} {ks xs : List Pv} {Y Y' : (Sto → Prop) → Sto → Prop} (i : ∀ g S', Y g S' → Y' g S') (h : lockW w S a ks xs Y) : lockW w S a ks xs Y' := by
  rcases h with ⟨h1, h2⟩ | ⟨o, vs, us, h1, h2⟩
  · exact .inl ⟨h1, fun o vs us => i _ _ (h2 o vs us)⟩
  · exact .inr ⟨o, vs, us, h1, i _ _ h2⟩
def fSetdW (w : World) (fd fk fx : PF) : PF := fun ρ S Q => fd ρ S fun x S1 => (∃ a ks xs, x = .ref a ∧ S1 a = some (nwM w a ks xs)) ∧ fk ρ S1 fun k S2 => fx ρ S2 fun z S3 => ∃ a ks xs, x = .ref a ∧ S3 a = some (nwM w a ks xs) ∧ keysT ks ∧ ks.length = xs.length ∧ kOk true k ∧ ks.length < sizeLine ∧
  (∀ v, getN ks xs k = some v → Q v S3) ∧ (getN ks xs k = none → Q z (put S3 a (nwM w a (ks ++ [k]) (xs ++ [z]))))
section
variable {X : Cx} {S0 : Sto} {H0 : Hp} {o i e f value : Expr} {fo fi fe ff fv fd fk fx fa : PF} {pos pos' apos cpos : Pos}
theorem pv_dictW {w : World} : PV X S0 H0 (.Dict [] [] pos) (fDictW w) := by
  refine ⟨fun _ _ _ _ h q a ha => h _ _ (q a ha), PE.imp (pe_dnewW (wo := w)) fun σ H Q ⟨ρ, S, re, rs, ex, q⟩ d nd => ?_⟩
  have e : Ext S H (put S d (nwM w d [] [])) (upd H d (nwO w d [])) := ⟨fun x o hx hs => by rw [upd_ne (ne_of_none hx nd)]; exact hx, fun x hx => by
    by_cases z : x = d
    · subst z; exact .inr nd
    · rw [put_ne z] at hx; exact .inl hx⟩
  have r := (rs.newD nd).chgX (u := nwO w d []) (m' := nwM w d [] []) put_same ⟨[], [], upd_same, nw_ob, rfl, rfl⟩
  rw [put_put, upd_upd] at r
  exact q d (rs.fr nd) _ _ rfl r e
theorem pv_setdW (hu : X.A.units + 64 < cLine) (ho : PV X S0 H0 o fd) (he : PV X S0 H0 e fk) (hf : PV X S0 H0 f fx) (hbase : attributeBase o "setdefault" X.env (eval o X.env) = eval o X.env := by rfl)
    (hfew : ((backTo cpos (starEach [e, f] X.env)).all (fun x => !x.1) && (backToKw cpos (keywordEach [] X.env)).all (fun x => x.1.isSome) && decide (([e, f] : List Expr).length + ([] : List Keyword).length + (if ([] : List Keyword).isEmpty then 0 else 1) < 30)) = true := by rfl)
    (hline : (apos.endLine == cpos.line) = true := by rfl) (htr : backTo cpos (starEach [e, f] X.env) = [(false, eval e X.env), (false, eval f X.env)] := by rfl) :
    PV X S0 H0 (.Call (.Attribute o "setdefault" apos) [e, f] [] cpos) (fSetdW X.w fd fk fx) := by
  refine ⟨fun ρ S Q Q' i q => ho.mono _ _ _ _ (fun x S1 q => ⟨q.1, he.mono _ _ _ _ (fun k S2 q => hf.mono _ _ _ _ (fun z S3 ⟨a, ks, xs, h1, h2, h3, h4, h5, h6, q, q'⟩ => ⟨a, ks, xs, h1, h2, h3, h4, h5, h6, fun v g => i _ _ (q v g), fun g => i _ _ (q' g)⟩) q) q.2⟩) q, PE.imp (pe_wsetd hu ho.pe he.pe hf.pe ⟨hbase, hfew, hline, htr⟩) fun σ H Q ⟨ρ, S, re, rs, ex, q⟩ => ?_⟩
  refine ⟨ρ, S, re, rs, ex, ho.mono _ _ _ _ (fun x S1 q v H1 rx rs1 ex1 => ?_) q⟩
  obtain ⟨⟨a0, ks0, xs0, rfl, h0⟩, q⟩ := q
  obtain ⟨vs0, us0, hd0, _⟩ := rs1.nw h0
  have ev : v = .ref a0 := rx
  refine ⟨a0, ev, ⟨_, .inl hd0⟩, ρ, S1, re.ext rs ex1, rs1, ex.trans ex1, he.mono _ _ _ _ (fun y S2 q yv H2 ry rs2 ex2 => ?_) q⟩
  have e2 := ex1.trans ex2
  refine ⟨ρ, S2, re.ext rs e2, rs2, ex.trans e2, hf.mono _ _ _ _ (fun z S3 q zv H3 rz rs3 ex3 => ?_) q⟩
  have e3 := e2.trans ex3
  obtain ⟨a, ks, xs, h1, h2, h3, h4, h5, h6, q, q'⟩ := q
  cases h1
  have ry3 : RepV X.K H3 S3 y yv := RepV.ext rs2 ex3 y yv ry
  obtain ⟨vs, us, hd, r1, r2⟩ := rs3.nw h2
  have kv' := h5.kv ry3
  obtain ⟨⟨b, rfl⟩, _, _⟩ := id kv'
  have l1 := ents_len r1.len (r2.len.trans h4.symm)
  refine ⟨b, ents ks vs us, toK y, rfl, hd, kes_ofW h3 r1, kv', by rw [l1]; exact h6, fun v g => ?_, fun g => ?_⟩
  · rcases get_repN (k := y) r1 r2 h4 with ⟨_, g2⟩ | ⟨y', w, g1, g2, g3⟩
    · rw [g] at g2; cases g2
    · rw [g] at g2
      cases g2
      exact q y' g1 v H3 g3 rs3 e3
  · rcases get_repN (k := y) r1 r2 h4 with ⟨g1, _⟩ | ⟨y', w, _, g2, _⟩
    · have en := Ext.chg (H := H3) (m' := nwM X.w a0 (ks ++ [y]) (xs ++ [z])) (o := nwO X.w a0 (ents (ks ++ [y]) (vs ++ [.ref b]) (us ++ [zv]))) h2
      have es : ents (ks ++ [y]) (vs ++ [.ref b]) (us ++ [zv]) = ents ks vs us ++ [(toK y, b, zv)] := ents_app r1.len (r2.len.trans h4.symm)
      rw [← es]
      refine q' g1 zv _ (RepV.ext rs3 en z zv rz) (rs3.chgX h2 ⟨vs ++ [.ref b], us ++ [zv], upd_same, nw_ob, ?_, ?_⟩) (e3.trans en)
      · exact RepVs.ext rs3 en _ _ (r1.app ⟨_, [], rfl, ry3, rfl⟩)
      · exact RepVs.ext rs3 en _ _ (r2.app ⟨_, [], rfl, rz, rfl⟩)
    · rw [g] at g2; cases g2
theorem lockW_run {wo : World} {Mk : Addr → Obj → List EntN → It} {S : Sto} {H : Hp} {d : Addr} {ks xs its : List Pv} {R : It → Hp → Prop} {Y : (Sto → Prop) → Sto → Prop} (rs : RepS X.K H S) (ok : keysT ks) (hl : ks.length = xs.length)
    (go : ∀ o L H i, H d = some (.frz o (nwO wo d L)) → i < L.length → (Mk d o L).go i H) (stop : ∀ o L H i, H d = some (.frz o (nwO wo d L)) → L.length ≤ i → (Mk d o L).stop i H) (hil : its.length = ks.length)
    (yl : ∀ o vs us S H i v H', RepS X.K H S → RepVs X.K H S ks vs → RepVs X.K H S xs us → (Mk d o (ents ks vs us)).yld i H v H' → ∃ x, its[i]? = some x ∧ RepV X.K H' S x v ∧ RepS X.K H' S ∧ Ext S H S H')
    (h : lockW wo S d ks xs Y) (k : ∀ gd S' J H', Y gd S' → Wk X.K S' H' J its gd → RepS X.K H' S' → Ext S H S' H' → R J H') :
    ∃ L, (H d = some (nwO wo d L) ∧ ∀ o, R (Mk d o L) (upd H d (.frz o (nwO wo d L)))) ∨ ∃ o, H d = some (.frz o (nwO wo d L)) ∧ R (Mk d o L) H := by
  have wk : ∀ o vs us S1 H1, RepS X.K H1 S1 → S1 d = some (nwF wo o d vs us ks xs) → Wk X.K S1 H1 (Mk d o (ents ks vs us)) its fun S' => S' d = some (nwF wo o d vs us ks xs) := fun o vs us S1 H1 rs1 h1 => by
    refine ⟨fun S2 H2 i x e rs2 g hx => ?_, fun S2 H2 e rs2 g => ?_⟩
    · obtain ⟨hd, r1, r2⟩ := rs2.nwF g
      have hlen := ents_len r1.len (r2.len.trans hl.symm)
      have hi : i < (ents ks vs us).length := by
        rw [hlen, ← hil]
        exact (List.getElem?_eq_some_iff.mp hx).1
      refine ⟨go o _ H2 i hd hi, fun v H3 y => ?_⟩
      obtain ⟨x', hx', r⟩ := yl o vs us S2 H2 i v H3 rs2 r1 r2 y
      rw [hx] at hx'
      cases hx'
      exact r
    · obtain ⟨hd, r1, r2⟩ := rs2.nwF g
      refine stop o _ H2 _ hd ?_
      rw [ents_len r1.len (r2.len.trans hl.symm), hil]
      exact Nat.le_refl _
  rcases h with ⟨h1, h2⟩ | ⟨o, vs, us, h1, h2⟩
  · obtain ⟨vs, us, hd, r1, r2⟩ := rs.nw h1
    refine ⟨ents ks vs us, .inl ⟨hd, fun o => ?_⟩⟩
    have rs1 := rs.toFW (w := wo) h1 o r1 r2
    exact k _ _ _ _ (h2 o vs us) (wk o vs us _ _ rs1 put_same) rs1 (Ext.chg h1)
  · obtain ⟨hd, r1, r2⟩ := rs.nwF h1
    exact ⟨ents ks vs us, .inr ⟨o, hd, k _ _ _ _ h2 (wk o vs us _ _ rs h1) rs (Ext.refl _ _)⟩⟩
theorem pit_itemsW {wo : World} {elts : List Expr} {kk : Nat} {tpos : Pos} (h : PV X S0 H0 e fa) (hbase : attributeBase e "items" X.env (eval e X.env) = eval e X.env := by rfl) (hline : (apos.endLine == cpos.line) = true := by rfl) :
    PIt X S0 H0 (.Tuple elts kk tpos) (.Call (.Attribute e "items" apos) [] [] cpos) (fItemsW wo fa) := by
  refine ⟨fun ρ S Q Q' i q => h.mono _ _ _ _ (fun p S1 ⟨d, ks, xs, h1, h2, h3, q⟩ => ⟨d, ks, xs, h1, h2, h3, lockW_mono (fun g S' q => i _ _ _ q) q⟩) q, PI.imp (pi_itemsW (wo := wo) h.pe hbase hline) fun σ H R ⟨ρ, S, re, rs, ex, q⟩ => ?_⟩
  refine ⟨ρ, S, re, rs, ex, h.mono _ _ _ _ (fun p S1 ⟨d, ks, xs, h1, h2, h3, q⟩ v H1 rv rs1 ex1 => ?_) q⟩
  subst h1
  have e1 : v = .ref d := rv
  subst e1
  obtain ⟨L, r⟩ := lockW_run (Mk := ItiW wo) (its := pairsP ks xs) (R := R) rs1 h2 h3 (fun o L H i hd hi => ⟨hd, hi⟩) (fun o L H i hd hi => ⟨hd, hi⟩) (by unfold pairsP; rw [List.length_map, List.length_zip, ← h3, Nat.min_self]) (fun o vs us S H i v H' rs r1 r2 y => by
    obtain ⟨T, k, b, u, hL, rfl, nT, rfl⟩ := y
    obtain ⟨kp, x, e1, e2, r, r'⟩ := ents_getW h2 r1 r2 hL
    refine ⟨.tup [kp, x], ?_, pair_new rs nT r r'⟩
    unfold pairsP
    rw [List.getElem?_map, (List.getElem?_zip_eq_some (z := (kp, x))).mpr ⟨e1, e2⟩]
    rfl) q fun gd S' J H' y w rs' ex' => y J H' w rs' (ex1.trans ex')
  exact ⟨d, L, rfl, r⟩
end
end PL

namespace PLN
open PySem PySem.Spec PyProof.Rows L2 PLS PL
section
variable {X : Cx} {pins : List (Addr × Obj)} {σ : L2.St} {H : Hp} {s : Shared} {E : Value → Shared → Prop}
theorem nw_setItem {D b : Addr} {L : List EntN} {k : NestedKey} {v : V} {r : Value} {Q : Unit → Shared → Prop} (hu : X.A.units + 64 < cLine) (I : Inv X pins σ H s) (hD : H D = some (nwO X.w D L)) (hk : KEs X.K H L) (hb : KV true X.K H k (.ref b)) (hz : L.length < sizeLine)
    (rv : RelV v r) (h : ∀ s', Inv X pins σ (upd H D (nwO X.w D (putE L k b v))) s' → Q () s') : wpAny (model X.prog X.w) X.A (setItem (.ref D) (.ref b) r) Q E s := by
  obtain ⟨h1, h2, xs, p, dd⟩ := nw_rd I (.inl hD) hk
  have hxl : xs.length ≤ sizeLine := by rw [← paired_len p]; exact h2
  refine wpAny_setItem_heap (hsz := hxl) (show X.A.units + 1 + 8 < cLine by omega) (KV.is I hb) dd fun h' dd' sb => h _ ?_
  have he : ∃ q, h'.get? D = some q := let ⟨q, _, _, hq, _⟩ := dd'; ⟨q, hq⟩
  refine I.write (e := D) (by rw [hD]; trivial) (.inl rfl) (fun b' o hb ho => (sb.2 b' hb).trans ho) he (nwO_new ⟨h1, ?_, _, paired_put p k b rv, ofw_dh dd'⟩)
  have := putE_len (L := L) (k := k) (b := b) (v := v)
  omega
theorem nw_getItem {a b : Addr} {L : List EntN} {k : NestedKey} {v : V} {Q : Value → Shared → Prop} (hu : X.A.units + 64 < cLine) (I : Inv X pins σ H s) (h : Rd H a (nwO X.w a L)) (hk : KEs X.K H L) (hb : KV true X.K H k (.ref b)) (hv : getE L k = some v) (q : ∀ s' u, Inv X pins σ H s' → RelV v u → Q u s') :
    wpAny (model X.prog X.w) X.A (getItem (.ref a) (.ref b)) Q E s := by
  obtain ⟨h1, h2, xs, p, dd⟩ := nw_rd I h hk
  rcases paired_getE p k with ⟨i1, _⟩ | ⟨v', y, i1, i2, i3⟩
  · rw [hv] at i1; cases i1
  · rw [hv] at i1; cases i1
    exact wpAny_getItem_heap (show X.A.units + 1 + 8 < cLine by omega) (KV.is I hb) dd i2 (q _ _ (I.tok _) i3)
theorem nw_get2 {a b : Addr} {L : List EntN} {k : NestedKey} {x : V} {u : Value} {Q : Value → Shared → Prop} (hu : X.A.units + 64 < cLine) (I : Inv X pins σ H s) (h : Rd H a (nwO X.w a L)) (hk : KEs X.K H L) (hb : KV true X.K H k (.ref b)) (rx : RelV x u) (q : ∀ s' w, Inv X pins σ H s' → RelV ((getE L k).getD x) w → Q w s') :
    wpAny (model X.prog X.w) X.A (call (.builtin "dict.get") [.ref a, .ref b, u]) Q E s := by
  obtain ⟨h1, h2, xs, p, dd⟩ := nw_rd I h hk
  refine getOr_keyed (show X.A.units + 1 + 8 < cLine by omega) (KV.is I hb) h1 ⟨xs, dd, rfl⟩ ?_
  rw [valueAt_pairsH]
  rcases paired_getE p k with ⟨i1, i2⟩ | ⟨v, y, i1, i2, i3⟩
  · rw [i1] at q
    rw [i2]
    exact q _ _ (I.tok _) rx
  · rw [i1] at q
    rw [i2]
    exact q _ _ (I.tok _) i3
end
def ItkW (wo : World) (d : Addr) (o : Obj) (L : List EntN) : It :=
  ⟨fun i H => H d = some (.frz o (nwO wo d L)) ∧ i < L.length, fun i H x H' => H' = H ∧ ∃ k b v, L[i]? = some (k, b, v) ∧ x = .ref b, fun i H => H d = some (.frz o (nwO wo d L)) ∧ L.length ≤ i⟩
section
variable {P : Program} {w : World} {K : PySem.W.Frag} {tg : Expr} {d : Addr} {o : Obj} {es : Array DictEntry} {ep : Nat}
theorem turn_keysW {wo : World} {L : List EntN} (it : Addr) (hod : o.data = .dict es ep) : Turn P w K tg (ItkW wo d o L) [it] it (fun i h => h.IsKeyIter it d i L.length ep) where
  mem := by simp
  obj := fun i h st b hb => by
    have e : b = it := by simpa using hb
    subst e
    obtain ⟨oi, e, c, dd⟩ := st
    exact ⟨oi, e, fun v z => by rw [dd] at z; cases z⟩
  keep := fun i h h' st k => st.at fun oi e => k it (by simp) oi e
  item := by
    intro X hP hw hK hc i pins s σ H E I hf st hg
    subst hP hw hK
    obtain ⟨hd, hi⟩ := hg
    obtain ⟨f0, f1, f2, f3, f4, f5⟩ := hf it (by simp)
    obtain ⟨hs, hgd, hx, es', ep', hdt, hsz, ent⟩ := nw_frz I hd
    obtain ⟨rfl, rfl⟩ := dict_ep hod hdt
    rw [← hsz] at st hi
    have hL : i < L.length := by rw [← hsz]; exact hi
    obtain ⟨e1, e2⟩ := ent i hi L[i].1 L[i].2.1 L[i].2.2 (List.getElem?_eq_getElem hL)
    refine wpAny_pyNext_keys_item_raw st ⟨o, hgd, hx, hdt⟩ hi fun h' st' sb => ?_
    have I1 : Inv X pins σ H { s with heap := h' } := I.turned (t' := s.toks) (fun b ob hb e => (sb.2 b hb).trans e) f0 f1 f3 f4 f5
    obtain ⟨oi, e, c, dd⟩ := id st'
    refine ⟨_, rfl, go_of (s := { s with heap := h' }) e c dd (by decide) ⟨.ref L[i].2.1, H, I1, e1, ⟨rfl, _, _, _, List.getElem?_eq_getElem hL, rfl⟩, ?_, fun b hb => (hf b hb).1⟩⟩
    rw [← hsz]
    exact st'
  done := by
    intro X hP hw hK hc i pins s σ H E I hf st hg
    subst hP hw hK
    obtain ⟨hd, hi⟩ := hg
    obtain ⟨f0, f1, f2, f3, f4, f5⟩ := hf it (by simp)
    obtain ⟨hs, hgd, hx, es', ep', hdt, hsz, ent⟩ := nw_frz I hd
    obtain ⟨rfl, rfl⟩ := dict_ep hod hdt
    rw [← hsz] at st hi
    exact wpAny_pyNext_keys_end_raw (I.ok.hd hc) st ⟨o, hgd, hx, hdt⟩ hi fun h' eb => ⟨rfl, I.turned (t' := s.toks) (fun b ob hb e => eb b ob hb e) f0 f1 f3 f4 f5⟩
  self := fun A i s Q E st h => by
    refine wpAny_pyIter_slot st.typeIs F.slot_dict_keyiterator_iter (wpAny_call_entry F.slot_dict_keyiterator_iter st.typeIs F.entry_dict_keyiterator_iter ?_ (F.args_dict_keyiterator_iter_1 _))
    show wpAny _ _ (ret (.ref it)) _ _ s
    exact wpAny_pure ⟨_, rfl, "dict_keyiterator", _, st.typeIs, F.slot_dict_keyiterator_next.lookup, h⟩
end
def iKeysW (wo : World) (td : TE) : TI := fun σ H R => td σ H fun x H1 => ∃ (d : Addr) (L : List EntN), x = .ref d ∧ ((H1 d = some (nwO wo d L) ∧ ∀ o, R (ItkW wo d o L) (upd H1 d (.frz o (nwO wo d L)))) ∨ ∃ o, H1 d = some (.frz o (nwO wo d L)) ∧ R (ItkW wo d o L) H1)
section
variable {X : Cx} {tg o e i f value : Expr} {td ty tx tv : TE} {pos pos' apos cpos : Pos}
theorem pi_keysW {wo : World} (he : PE X e td) : PI X tg e (iKeysW wo td) := by
  refine ⟨fun pins s σ H R I h => ?_⟩
  refine thn (he.run pins s σ H _ I h) fun u s1 ⟨x, H1, I1, rx, d, L, ex, q⟩ => ?_
  subst ex
  obtain rfl : u = Value.ref d := rx
  obtain ⟨o, H2, I2, hd, q⟩ := nw_lock I1 q
  obtain ⟨hs, hgd, hx, es, ep, hdt, hsz, ent⟩ := nw_frz I2 hd
  refine iter_keys hs hgd hx hdt (pi_one (tk := s1.toks) I2 _ (turn_keysW _ hdt) ⟨_, Heap.get?_push_size _ rfl, rfl, ?_⟩ q)
  rw [hsz] <;> rfl
def tWGet (K : PySem.W.Frag) (wo : World) (td ty : TE) : TE := fun σ H Q => td σ H fun x H1 => ty σ H1 fun y H2 => ∃ a b L k v, x = .ref a ∧ y = .ref b ∧ Rd H2 a (nwO wo a L) ∧ KEs K H2 L ∧ KV true K H2 k (.ref b) ∧ getE L k = some v ∧ Q v H2
theorem pe_wget (hu : X.A.units + 64 < cLine) (ho : PE X o td) (hi : PE X i ty) (hs : NoSl i) : PE X (.Subscript o i pos) (tWGet X.K X.w td ty) := by
  refine ⟨fun pins s σ H Q I h => ?_⟩
  refine subD_of PySem.F.slot_dict_getitem.lookup hs (thn (ho.run pins s σ H _ I h) fun u s1 ⟨x, H1, I1, rx, q1⟩ => thn (hi.run pins s1 σ H1 _ I1 q1) fun iv s2 ⟨y, H2, I2, ry, a, b, L, k, v, ex, ey, hd, hk, hb, g, q2⟩ => ?_)
  subst ex ey
  obtain rfl : u = Value.ref a := rx
  obtain rfl : iv = Value.ref b := ry
  exact ⟨(nw_type I2 hd).1, nw_getItem hu I2 hd hk hb g fun s3 w I3 rw' => ⟨v, H2, I3, rw', q2⟩⟩
def sWPut (K : PySem.W.Frag) (wo : World) (td ty tv : TE) : TS := fun D σ H => tv σ H fun v H1 => td σ H1 fun x H2 => ty σ H2 fun y H3 => ∃ a b L k, x = .ref a ∧ y = .ref b ∧ H3 a = some (nwO wo a L) ∧ KEs K H3 L ∧ KV true K H3 k (.ref b) ∧ L.length < sizeLine ∧ D.nx σ (upd H3 a (nwO wo a (putE L k b v)))
theorem ps_wput (hu : X.A.units + 64 < cLine) (ho : PE X o td) (hi : PE X i ty) (hv : PE X value tv) (hs : swapsWith value (some (.Subscript o i pos')) pos.line X.env = pure false) :
    PS X (.Assign [.Subscript o i pos'] value pos) (sWPut X.K X.w td ty tv) := by
  refine ⟨fun pins s σ H D I h => ?_⟩
  refine wpAny_Assign_Subscript (thn (hv.run pins s σ H _ I h) fun r s1 ⟨v, H1, I1, rv, q1⟩ => thn (ho.run pins s1 σ H1 _ I1 q1) fun u s2 ⟨x, H2, I2, rx, q2⟩ => thn (hi.run pins s2 σ H2 _ I2 q2) fun iv s3 ⟨y, H3, I3, ry, a, b, L, k, ex, ey, hd, hk, hb, hz, q3⟩ => ?_) hs
  subst ex ey
  obtain rfl : u = Value.ref a := rx
  obtain rfl : iv = Value.ref b := ry
  exact nw_setItem hu I3 hd hk hb hz rv fun s4 I4 => ⟨σ, _, I4, q3⟩
def tWGet2 (K : PySem.W.Frag) (wo : World) (td ty tx : TE) : TE := fun σ H Q => td σ H fun x H1 => ∃ a, x = .ref a ∧ (∃ L, Rd H1 a (nwO wo a L)) ∧ ty σ H1 fun y H2 => tx σ H2 fun z H3 => ∃ b L k, y = .ref b ∧ Rd H3 a (nwO wo a L) ∧ KEs K H3 L ∧ KV true K H3 k (.ref b) ∧ Q ((getE L k).getD z) H3
theorem pe_wget2 (hu : X.A.units + 64 < cLine) (ho : PE X o td) (he : PE X e ty) (hf : PE X f tx) (m : M2 X o "get" apos e f cpos) : PE X (.Call (.Attribute o "get" apos) [e, f] [] cpos) (tWGet2 X.K X.w td ty tx) := by
  refine ⟨fun pins s σ H Q I h => ?_⟩
  refine wpAny_Call_method m.base m.few m.line PySem.F.plainAttrs_dict PySem.F.slot_dict_get PySem.F.type_dict_get (thn (ho.run pins s σ H _ I h) fun u s1 ⟨x, H1, I1, rx, a, ex, ⟨L0, d⟩, q1⟩ => ?_)
  subst ex
  obtain rfl : u = Value.ref a := rx
  obtain ⟨t1, t2⟩ := nw_type I1 d
  refine ⟨t1, t2, ?_⟩
  rw [m.trees]
  refine Calls.callWith_builtin rfl (Calls.evalArgs_plain (Calls.spliced_cons (thn (he.run pins s1 σ H1 _ I1 q1) fun iv s2 ⟨y, H2, I2, ry, q2⟩ =>
    Calls.spliced_cons (thn (hf.run pins s2 σ H2 _ I2 q2) fun fv s3 ⟨z, H3, I3, rz, b, L, k, ey, hd, hk, hb, q3⟩ => Calls.spliced_nil ?_))))
  subst ey
  obtain rfl : iv = Value.ref b := ry
  exact nw_get2 hu I3 hd hk hb rz fun s4 w I4 rw' => ⟨_, H3, I4, rw', q3⟩
end
end PLN
namespace PL
open PySem PySem.Spec PyProof.Rows L2 PLS PLN
def isW (w : World) (S : Sto) (a : Addr) (ks xs : List Pv) : Prop := S a = some (nwM w a ks xs) ∨ ∃ o vs us, S a = some (nwF w o a vs us ks xs)
section
variable {K : PySem.W.Frag} {H : Hp} {S : Sto} {D : Addr} {ks xs : List Pv} {w : World}
theorem RepS.isW (rs : RepS K H S) (h : PL.isW w S D ks xs) : ∃ vs us, Rd H D (nwO w D (ents ks vs us)) ∧ RepVs K H S ks vs ∧ RepVs K H S xs us := by
  rcases h with h | ⟨o, vs, us, h⟩
  · obtain ⟨vs, us, e, r1, r2⟩ := rs.nw h
    exact ⟨vs, us, .inl e, r1, r2⟩
  · obtain ⟨e, r1, r2⟩ := rs.nwF h
    exact ⟨vs, us, .inr ⟨o, e⟩, r1, r2⟩
theorem put_repW {k y : Pv} {vs us : List V} {kv yv : V} (rk : RepV K H S k kv) (ry : RepV K H S y yv) (r1 : RepVs K H S ks vs) (r2 : RepVs K H S xs us) (hl : ks.length = xs.length) :
    (putN ks xs k y).1.length = (putN ks xs k y).2.length ∧ ∃ vs' us', ents (putN ks xs k y).1 vs' us' = putE (ents ks vs us) (toK k) (adr kv) yv ∧ RepVs K H S (putN ks xs k y).1 vs' ∧ RepVs K H S (putN ks xs k y).2 us' := by
  have l1 := r1.len
  have l2 := r2.len
  unfold putE
  rw [ents_any k l1 (l2.trans hl.symm)]
  unfold putN
  split
  · obtain ⟨us', i1, i2⟩ := zip_repN (k := k) ry r1 r2 hl
    exact ⟨by rw [List.length_map, List.length_zip, ← hl, Nat.min_self], vs, us', i1, r1, i2⟩
  · exact ⟨by rw [List.length_append, List.length_append, hl]; rfl, vs ++ [kv], us ++ [yv], ents_app l1 (l2.trans hl.symm), r1.app ⟨kv, [], rfl, rk, rfl⟩, r2.app ⟨yv, [], rfl, ry, rfl⟩⟩
end
def oWGet (w : World) : O2 := fun x k S Q => ∃ a ks xs v, x = .ref a ∧ isW w S a ks xs ∧ keysT ks ∧ ks.length = xs.length ∧ kOk true k ∧ getN ks xs k = some v ∧ Q v S
def fWGet2 (w : World) (fd fk fx : PF) : PF := fun ρ S Q => fd ρ S fun x S1 => (∃ a ks xs, x = .ref a ∧ isW w S1 a ks xs) ∧ fk ρ S1 fun k S2 => fx ρ S2 fun z S3 => ∃ a ks xs, x = .ref a ∧ isW w S3 a ks xs ∧ keysT ks ∧ ks.length = xs.length ∧ kOk true k ∧ Q ((getN ks xs k).getD z) S3
def gPutW (w : World) (fv fd fk : PF) : PFS := fun D ρ S => fv ρ S fun v S1 => fd ρ S1 fun x S2 => fk ρ S2 fun k S3 => ∃ a ks xs, x = .ref a ∧ S3 a = some (nwM w a ks xs) ∧ keysT ks ∧ ks.length = xs.length ∧ kOk true k ∧ ks.length < sizeLine ∧ D.nx ρ (put S3 a (nwM w a (putN ks xs k v).1 (putN ks xs k v).2))
def fKeysW (w : World) (f : PF) : PFI := fun ρ S Q => f ρ S fun p S1 => ∃ a ks xs, p = .ref a ∧ keysT ks ∧ ks.length = xs.length ∧ lockW w S1 a ks xs fun gd S2 => Q ks gd S2
section
variable {X : Cx} {S0 : Sto} {H0 : Hp} {o i e f value : Expr} {fo fi fe ff fv fd fk fx fa : PF} {pos pos' apos cpos : Pos}
theorem pv_wget (hu : X.A.units + 64 < cLine) (ho : PV X S0 H0 o fo) (hi : PV X S0 H0 i fi) (hs : NoSl i := by intro _ _; rfl) : PV X S0 H0 (.Subscript o i pos) (f2 (oWGet X.w) fo fi) := by
  refine ⟨fun ρ S Q Q' h q => ho.mono _ _ _ _ (fun x S1 q => hi.mono _ _ _ _ (fun k S2 ⟨a, ks, xs, v, h1, h2, h3, h4, h5, h6, q⟩ => ⟨a, ks, xs, v, h1, h2, h3, h4, h5, h6, h _ _ q⟩) q) q, PE.imp (pe_wget hu ho.pe hi.pe hs) fun σ H Q ⟨ρ, S, re, rs, ex, q⟩ => ?_⟩
  refine ⟨ρ, S, re, rs, ex, ho.mono _ _ _ _ (fun x S1 q v H1 rx rs1 ex1 => ?_) q⟩
  refine ⟨ρ, S1, re.ext rs ex1, rs1, ex.trans ex1, hi.mono _ _ _ _ (fun k S2 q kv H2 rk rs2 ex2 => ?_) q⟩
  obtain ⟨a, ks, xs, y, rfl, h2, h3, h4, h5, h6, q⟩ := q
  obtain ⟨vs, us, hd, r1, r2⟩ := rs2.isW h2
  have kv' := h5.kv rk
  obtain ⟨⟨b, rfl⟩, _, _⟩ := id kv'
  rcases get_repN (k := k) r1 r2 h4 with ⟨g1, _⟩ | ⟨y', w, g1, g2, g3⟩
  · rw [g1] at h6; cases h6
  · rw [g1] at h6
    cases h6
    exact ⟨a, b, ents ks vs us, toK k, w, rx, rfl, hd, kes_ofW h3 r1, kv', g2, q w H2 g3 rs2 (ex1.trans ex2)⟩
theorem pv_wget2 (hu : X.A.units + 64 < cLine) (ho : PV X S0 H0 o fd) (he : PV X S0 H0 e fk) (hf : PV X S0 H0 f fx) (hbase : attributeBase o "get" X.env (eval o X.env) = eval o X.env := by rfl)
    (hfew : ((backTo cpos (starEach [e, f] X.env)).all (fun x => !x.1) && (backToKw cpos (keywordEach [] X.env)).all (fun x => x.1.isSome) && decide (([e, f] : List Expr).length + ([] : List Keyword).length + (if ([] : List Keyword).isEmpty then 0 else 1) < 30)) = true := by rfl)
    (hline : (apos.endLine == cpos.line) = true := by rfl) (htr : backTo cpos (starEach [e, f] X.env) = [(false, eval e X.env), (false, eval f X.env)] := by rfl) :
    PV X S0 H0 (.Call (.Attribute o "get" apos) [e, f] [] cpos) (fWGet2 X.w fd fk fx) := by
  refine ⟨fun ρ S Q Q' i q => ho.mono _ _ _ _ (fun x S1 q => ⟨q.1, he.mono _ _ _ _ (fun k S2 q => hf.mono _ _ _ _ (fun z S3 ⟨a, ks, xs, h1, h2, h3, h4, h5, q⟩ => ⟨a, ks, xs, h1, h2, h3, h4, h5, i _ _ q⟩) q) q.2⟩) q, PE.imp (pe_wget2 hu ho.pe he.pe hf.pe ⟨hbase, hfew, hline, htr⟩) fun σ H Q ⟨ρ, S, re, rs, ex, q⟩ => ?_⟩
  refine ⟨ρ, S, re, rs, ex, ho.mono _ _ _ _ (fun x S1 q v H1 rx rs1 ex1 => ?_) q⟩
  obtain ⟨⟨a0, ks0, xs0, rfl, h0⟩, q⟩ := q
  obtain ⟨vs0, us0, hd0, _⟩ := rs1.isW h0
  have ev : v = .ref a0 := rx
  refine ⟨a0, ev, ⟨_, hd0⟩, ρ, S1, re.ext rs ex1, rs1, ex.trans ex1, he.mono _ _ _ _ (fun y S2 q yv H2 ry rs2 ex2 => ?_) q⟩
  have e2 := ex1.trans ex2
  refine ⟨ρ, S2, re.ext rs e2, rs2, ex.trans e2, hf.mono _ _ _ _ (fun z S3 q zv H3 rz rs3 ex3 => ?_) q⟩
  have e3 := e2.trans ex3
  obtain ⟨a, ks, xs, h1, h2, h3, h4, h5, q⟩ := q
  cases h1
  have ry3 : RepV X.K H3 S3 y yv := RepV.ext rs2 ex3 y yv ry
  obtain ⟨vs, us, hd, r1, r2⟩ := rs3.isW h2
  have kv' := h5.kv ry3
  obtain ⟨⟨b, rfl⟩, _, _⟩ := id kv'
  refine ⟨b, ents ks vs us, toK y, rfl, hd, kes_ofW h3 r1, kv', ?_⟩
  rcases get_repN (k := y) r1 r2 h4 with ⟨g1, g2⟩ | ⟨y', w, g1, g2, g3⟩
  · rw [g1] at q
    rw [g2]
    exact q zv H3 rz rs3 e3
  · rw [g1] at q
    rw [g2]
    exact q w H3 g3 rs3 e3
theorem pz_putW (hu : X.A.units + 64 < cLine) (hv : PV X S0 H0 value fv) (ho : PV X S0 H0 o fd) (hi : PV X S0 H0 i fk) (hs : swapsWith value (some (.Subscript o i pos')) pos.line X.env = pure false := by rfl) : PZ X S0 H0 (.Assign [.Subscript o i pos'] value pos) (gPutW X.w fv fd fk) := by
  refine ⟨fun D D' ρ S l q => hv.mono _ _ _ _ (fun v S1 q => ho.mono _ _ _ _ (fun x S2 q => hi.mono _ _ _ _ (fun k S3 ⟨a, ks, xs, h1, h2, h3, h4, h5, h6, q⟩ => ⟨a, ks, xs, h1, h2, h3, h4, h5, h6, l.1 _ _ q⟩) q) q) q, PS.imp (ps_wput hu ho.pe hi.pe hv.pe hs) fun D σ H ⟨ρ, S, re, rs, ex, q⟩ => ?_⟩
  refine ⟨ρ, S, re, rs, ex, hv.mono _ _ _ _ (fun p S1 q v H1 rv rs1 ex1 => ?_) q⟩
  refine ⟨ρ, S1, re.ext rs ex1, rs1, ex.trans ex1, ho.mono _ _ _ _ (fun x S2 q xv H2 rx rs2 ex2 => ?_) q⟩
  have e2 := ex1.trans ex2
  refine ⟨ρ, S2, re.ext rs e2, rs2, ex.trans e2, hi.mono _ _ _ _ (fun y S3 q yv H3 ry rs3 ex3 => ?_) q⟩
  have e3 := e2.trans ex3
  obtain ⟨a, ks, xs, rfl, h2, h3, h4, h5, h6, q⟩ := q
  obtain ⟨vs, us, hd, r1, r2⟩ := rs3.nw h2
  have rv3 := RepV.ext rs1 (ex2.trans ex3) p v rv
  have kv' := h5.kv ry
  obtain ⟨p2, vs', us', p3, p4, p5⟩ := put_repW ry rv3 r1 r2 h4
  obtain ⟨⟨b, rfl⟩, _, _⟩ := id kv'
  have l1 := ents_len r1.len (r2.len.trans h4.symm)
  refine ⟨a, b, ents ks vs us, toK y, rx, rfl, hd, kes_ofW h3 r1, kv', by rw [l1]; exact h6, ?_⟩
  have en := e3.trans (Ext.chg (H := H3) (m' := nwM X.w a (putN ks xs y p).1 (putN ks xs y p).2) (o := nwO X.w a (ents (putN ks xs y p).1 vs' us')) h2)
  have ec := Ext.chg (H := H3) (m' := nwM X.w a (putN ks xs y p).1 (putN ks xs y p).2) (o := nwO X.w a (ents (putN ks xs y p).1 vs' us')) h2
  have rsn : RepS X.K (upd H3 a (nwO X.w a (ents (putN ks xs y p).1 vs' us'))) (put S3 a (nwM X.w a (putN ks xs y p).1 (putN ks xs y p).2)) :=
    rs3.chgX h2 ⟨vs', us', upd_same, nw_ob, RepVs.ext rs3 ec _ _ p4, RepVs.ext rs3 ec _ _ p5⟩
  rw [show putE (ents ks vs us) (toK y) b v = ents (putN ks xs y p).1 vs' us' from p3.symm]
  exact q σ _ (re.ext rs en) rsn en
theorem pit_keysW {wo : World} {tg : Expr} (h : PV X S0 H0 e fa) : PIt X S0 H0 tg e (fKeysW wo fa) := by
  refine ⟨fun ρ S Q Q' i q => h.mono _ _ _ _ (fun p S1 ⟨d, ks, xs, h1, h2, h3, q⟩ => ⟨d, ks, xs, h1, h2, h3, lockW_mono (fun g S' q => i _ _ _ q) q⟩) q, PI.imp (pi_keysW (wo := wo) h.pe) fun σ H R ⟨ρ, S, re, rs, ex, q⟩ => ?_⟩
  refine ⟨ρ, S, re, rs, ex, h.mono _ _ _ _ (fun p S1 ⟨d, ks, xs, h1, h2, h3, q⟩ v H1 rv rs1 ex1 => ?_) q⟩
  subst h1
  have e1 : v = .ref d := rv
  subst e1
  obtain ⟨L, r⟩ := lockW_run (Mk := ItkW wo) (its := ks) (R := R) rs1 h2 h3 (fun o L H i hd hi => ⟨hd, hi⟩) (fun o L H i hd hi => ⟨hd, hi⟩) rfl (fun o vs us S H i v H' rs r1 r2 y => by
    obtain ⟨rfl, k, b, u, hL, rfl⟩ := y
    obtain ⟨kp, x, e1, e2, r, _⟩ := ents_getW h2 r1 r2 hL
    exact ⟨kp, e1, r, rs, Ext.refl _ _⟩) q fun gd S' J H' y w rs' ex' => y J H' w rs' (ex1.trans ex')
  exact ⟨d, L, rfl, r⟩
end
end PL

namespace PL
open PySem PySem.Spec PyProof.Rows L2 PLS PLN
open PySem.W (dataLe dataLt alike AllAlike EachIs)
def n1 (L : List Cel) (a b : Nat) : Nat := L.countP fun c => decide (c.1 = a ∧ c.2 = b)
def nl (L : List Cel) (a b : Nat) : Nat := L.countP fun c => decide (c.1 + 1 = a ∧ c.2 = b)
def nb (L : List Cel) (a b : Nat) : Nat := L.countP fun c => decide (c.1 = a ∧ c.2 + 1 = b)
theorem dlt_asym {x y : PyData} (h : PySem.W.dataLt x y = true) : PySem.W.dataLt y x = false := by
  cases e : PySem.W.dataLt y x with
  | false => rfl
  | true =>
    have := lex_trans (O := itemOrd) _ _ _ h e
    rw [lex_irrefl] at this
    cases this
theorem sortP_pwR (xs : List Pv) : (sortP xs).Pairwise fun a b => PySem.W.dataLt (toD b) (toD a) = false := by
  have := List.pairwise_mergeSort (le := dataLe false toD) (fun a b c h1 h2 => ?_) (fun a b => ?_) xs
  · exact this.imp fun {a b} h => by simpa [PySem.W.dataLe_eq] using h
  · simp only [PySem.W.dataLe_eq, cond_false, Bool.not_eq_true'] at h1 h2 ⊢
    cases e : PySem.W.dataLt (toD c) (toD a) with
    | false => rfl
    | true =>
      rcases lex_negTrans (O := itemOrd) _ (PySem.W.keyToks (toD b)) _ e with z | z
      · rw [show PySem.W.dataLt (toD c) (toD b) = true from z] at h2; cases h2
      · rw [show PySem.W.dataLt (toD b) (toD a) = true from z] at h1; cases h1
  · simp only [PySem.W.dataLe_eq, cond_false]
    cases e : PySem.W.dataLt (toD b) (toD a) with
    | false => rfl
    | true => rw [dlt_asym e]; rfl
def celD (d : Cd) : Cel := (bkX d, bkY d)
theorem celD_in {d : Cd} (h : d ∈ allC 4) : celD d ∈ celAll ∧ cc (celD d) = d := by
  obtain ⟨hl, h4⟩ := (allC_mem 4 d).mp h
  have h1 : celD d ∈ cellsC d := cells_ne d
  have h2 := cells_in h4 (by omega) _ h1
  have h3 := (mem_pre h4 (by omega) h2).mp h1
  exact ⟨h2, (h3.eq_of_length (by rw [hl, (cc_fn (celD d)).1])).symm⟩
theorem celD_cc {c : Cel} (h : c ∈ celAll) : celD (cc c) = c := by
  have h1 : c ∈ cellsC (cc c) := (mem_pre (cc_fn c).2 (by rw [(cc_fn c).1]; omega) h).mpr (List.prefix_refl _)
  have h2 := mem_cells.mp h1
  have e : bkM (cc c) = 1 := by unfold bkM; rw [(cc_fn c).1]
  rw [e, Nat.div_one, Nat.div_one] at h2
  unfold celD bkX bkY
  rw [(cc_fn c).1, ← h2.1, ← h2.2]
  simp
theorem cc_all {c : Cel} : cc c ∈ allC 4 := (allC_mem 4 _).mpr (cc_fn c)
theorem own_cel {ms : List Mv} (h : ∀ m ∈ ms, CdOk m.2.1) (day : Int) {d : Cd} (hd : d ∈ allC 4) : ownOf ms d day = celR ms day (celD d) := by
  obtain ⟨h2, h3⟩ := celD_in hd
  have key : ∀ (ms : List Mv) (r : Str), (∀ m ∈ ms, CdOk m.2.1) → ms.foldl (ownF d day) r = ms.foldl (celF (celD d) day) r := by
    intro ms
    induction ms with
    | nil => intro r _; rfl
    | cons m ms ih =>
      intro r hm
      rw [List.foldl_cons, List.foldl_cons]
      have e : ownF d day r m = celF (celD d) day r m := by
        unfold ownF celF
        have : (m.2.1.any fun ds => ds.isPrefixOf d) = m.2.1.any fun ds => decide (celD d ∈ cellsC ds) := by
          rw [Bool.eq_iff_iff, List.any_eq_true, List.any_eq_true]
          have hc := hm m List.mem_cons_self
          constructor
          · rintro ⟨ds, hds, z⟩
            refine ⟨ds, hds, decide_eq_true ((mem_pre (hc ds hds).1 (hc ds hds).2 h2).mpr ?_)⟩
            rw [h3]; exact List.isPrefixOf_iff_prefix.mp z
          · rintro ⟨ds, hds, z⟩
            refine ⟨ds, hds, List.isPrefixOf_iff_prefix.mpr ?_⟩
            have := (mem_pre (hc ds hds).1 (hc ds hds).2 h2).mp (of_decide_eq_true z)
            rwa [h3] at this
        rw [this]
      rw [e]
      exact ih _ fun x hx => hm x (List.mem_cons_of_mem _ hx)
  exact key ms _ h
end PL

namespace PL
open PySem PySem.Spec PyProof.Rows L2 PLS PLN
open PySem.W (dataLe dataLt alike AllAlike EachIs)
theorem lc2_depG {α β : Type} {gd : Sto → Prop} {t t1 : Tg} {fi1 : PFI} {te : PF} {ρ : Env'} {vs1 : List Nat} {D : Addr} {Q : List Pv → Sto → Prop} {S : Sto} (N : Nat) (ys : α → List β) (g : α → Pv) (g1 : β → Pv) (f : α → β → Pv) (hD : S D = none) (hg : ∀ S', Has S S' → gd S') : ∀ (xs : List α) (acc : List Pv), acc.length + xs.length * N ≤ sizeLine →
    (∀ x ∈ xs, (ys x).length ≤ N ∧ ∀ S', Has S S' → ∃ ρ2, bindT S' t (g x) ρ = some ρ2 ∧ (∀ k, k ((ys x).map g1) tru S' → fi1 ρ2 S' k) ∧ ∀ y ∈ ys x, ∀ S'', Has S S'' → ∃ ρ3, bindT S'' t1 (g1 y) (wipeP ρ2 vs1) = some ρ3 ∧ ∀ k : QV, k (f x y) S'' → te ρ3 S'' k) →
    Q (acc ++ xs.flatMap fun x => (ys x).map (f x)) S → lc2W gd t fYes fi1 t1 fYes te ρ vs1 D Q (xs.map g) acc S
  | [], acc, _, _, q => ⟨hg _ (Has.put hD), by simpa using q⟩
  | x :: xs, acc, l, h, q => by
    refine ⟨hg _ (Has.put hD), ?_⟩
    obtain ⟨hl, hh⟩ := h x List.mem_cons_self
    obtain ⟨ρ2, e, h1, h2⟩ := hh _ (Has.put (m := .lst acc) hD)
    rw [e]
    have l' : acc.length + (N + xs.length * N) ≤ sizeLine := by
      rw [List.length_cons, Nat.succ_mul] at l
      omega
    refine h1 _ ⟨put_same, ?_⟩
    rw [del_put hD]
    refine lcW_pure g1 (fun _ => true) (f x) hD (fun _ _ => trivial) (ys x) acc (by omega) (fun y hy S' hs => ?_) ?_
    · obtain ⟨ρ3, e3, h3⟩ := h2 y hy S' hs
      exact ⟨ρ3, e3, fun kk z => z, fun _ k z => h3 k z⟩
    · rw [List.filter_eq_self.mpr (fun _ _ => rfl)]
      refine lc2_depG N ys g g1 f hD hg xs _ (by rw [List.length_append, List.length_map]; omega) (fun z hz => h z (List.mem_cons_of_mem _ hz)) ?_
      rw [List.flatMap_cons, ← List.append_assoc] at q
      exact q
theorem pairs_celC (L : List Cel) (f : Cel → Pv) : pairsP (L.map cellP) (L.map f) = L.map fun c => .tup [cellP c, f c] := by
  unfold pairsP
  rw [List.zip_map', List.map_map]
  rfl
theorem getN_cel (f : Cel → Pv) {c : Cel} : ∀ {L : List Cel}, c ∈ L → getN (L.map cellP) (L.map f) (cellP c) = some (f c)
  | [], h => by cases h
  | x :: L, h => by
    unfold getN
    rw [List.map_cons, List.map_cons, List.zip_cons_cons]
    by_cases e : x = c
    · rw [List.find?_cons_of_pos (by simpa using cell_inj.mpr e), e]
      rfl
    · rw [List.find?_cons_of_neg (by simpa using fun z => e (cell_inj.mp z))]
      exact getN_cel f ((List.mem_cons.mp h).resolve_left (Ne.symm e))
abbrev Pr := Str × Str
def prP (p : Pr) : Pv := .tup [.str p.1, .str p.2]
theorem toK_pr (p : Pr) : toK (prP p) = .tup [.text p.1, .text p.2] := by simp only [prP, toK, toKs]
theorem pr_kinj {p q : Pr} : toK (prP p) = toK (prP q) ↔ p = q := by
  rw [toK_pr, toK_pr]
  refine ⟨fun h => ?_, fun h => by rw [h]⟩
  injection h with h
  injection h with h1 h2
  injection h2 with h2 _
  injection h1 with h1
  injection h2 with h2
  exact Prod.ext h1 h2
theorem kOk_pr (p : Pr) : kOk true (prP p) := by
  refine ⟨rfl, rfl, ?_⟩
  show (toK (prP p)).depth ≤ 8
  rw [toK_pr]
  simp only [NestedKey.depth, NestedKey.depthAll]
  decide
theorem getN_pr {β : Type} (f : β → Pv) (p : Pr) : ∀ tl : List (Pr × β), getN (tl.map fun e => prP e.1) (tl.map fun e => f e.2) (prP p) = (tl.find? fun e => decide (e.1 = p)).map fun e => f e.2
  | [] => rfl
  | e :: tl => by
    have ih := getN_pr f p tl
    unfold getN at ih ⊢
    rw [List.map_cons, List.map_cons, List.zip_cons_cons]
    by_cases c : e.1 = p
    · rw [List.find?_cons_of_pos (by simpa using pr_kinj.mpr c), List.find?_cons_of_pos (by simpa using c)]
      rfl
    · rw [List.find?_cons_of_neg (by simpa using fun z => c (pr_kinj.mp z)), List.find?_cons_of_neg (by simpa using c)]
      exact ih
theorem pairs_tl (tl : List (Pr × Addr)) : pairsP (tl.map fun e => prP e.1) (tl.map fun e => .ref e.2) = tl.map fun e => .tup [prP e.1, .ref e.2] := by
  unfold pairsP
  rw [List.zip_map', List.map_map]
  rfl
def difC (ms : List Mv) (d1 d2 : Int) (c : Cel) : Bool := decide (celR ms d2 c ≠ celR ms d1 c)
theorem dif_eq (ms : List Mv) (d1 d2 : Int) (c : Cel) : (!eqS (.str (celR ms d2 c)) (.str (celR ms d1 c))) = difC ms d1 d2 c := by
  unfold difC
  simp [eqS]
def prC (ms : List Mv) (d1 d2 : Int) (c : Cel) : Pr := (celR ms d1 c, celR ms d2 c)
def clsC (ms : List Mv) (d1 d2 : Int) (L : List Cel) (p : Pr) : List Cel := L.filter fun c => difC ms d1 d2 c && decide (prC ms d1 d2 c = p)
structure PrsI (ms : List Mv) (d1 d2 : Int) (L : List Cel) (ps : List Pr) : Prop where
  nd : ps.Nodup
  mem : ∀ p, p ∈ ps ↔ ∃ c ∈ L, difC ms d1 d2 c = true ∧ prC ms d1 d2 c = p
theorem PrsI.nil {ms : List Mv} {d1 d2 : Int} : PrsI ms d1 d2 [] [] := ⟨List.nodup_nil, fun p => by simp⟩
theorem PrsI.len {ms : List Mv} {d1 d2 : Int} {ps : List Pr} (h : PrsI ms d1 d2 celAll ps) : ps.length ≤ 256 := by
  have := nodup_leC (D := celAll.map (prC ms d1 d2)) h.nd fun p hp => by
    obtain ⟨c, hc, _, e⟩ := (h.mem p).mp hp
    exact List.mem_map.mpr ⟨c, hc, e⟩
  rwa [List.length_map, all_len] at this
abbrev Trp := Cd × Pr
def trP (t : Trp) : Pv := .tup [.str (cdS t.1), .str t.2.1, .str t.2.2]
def chgL (ms : List Mv) (d1 d2 : Int) (ps : List Pr) : List Trp := ps.flatMap fun p => (cofC 6 (fun c => decide (c ∈ clsC ms d1 d2 celAll p)) []).map fun d => (d, p)
theorem tr_isDs : ∀ L : List Trp, isDs (L.map trP) = true
  | [] => rfl
  | s :: L => by
    show (isD (trP s) && isDs (L.map trP)) = true
    rw [tr_isDs L]; rfl
theorem tr_sortOk (L : List Trp) : sortOk (L.map trP) := by
  refine ⟨tr_isDs L, ?_, .inl ?_, ?_⟩
  · intro d hd d' hd'
    simp only [List.map_map, List.mem_map, Function.comp_apply] at hd hd'
    obtain ⟨a, _, rfl⟩ := hd
    obtain ⟨b, _, rfl⟩ := hd'
    rfl
  · intro d hd
    simp only [List.map_map, List.mem_map, Function.comp_apply] at hd
    obtain ⟨a, _, rfl⟩ := hd
    exact ⟨_, _, rfl⟩
  · intro x hx
    obtain ⟨a, _, rfl⟩ := List.mem_map.mp hx
    show 1 ≤ 60
    decide
structure Tn (w : World) (ms : List Mv) (d1 d2 : Int) (S0 : Sto) (t : Addr) (pre : List Cel) (tl : List (Pr × Addr)) (S : Sto) : Prop where
  here : S t = some (nwM w t (tl.map fun e => prP e.1) (tl.map fun e => .ref e.2))
  val : ∀ e ∈ tl, S e.2 = some (nkM e.2 ((clsC ms d1 d2 pre e.1).map cellP) ((clsC ms d1 d2 pre e.1).map fun _ => .bl true))
  prs : PrsI ms d1 d2 pre (tl.map (·.1))
  nda : (tl.map (·.2)).Nodup
  ne : ∀ e ∈ tl, e.2 ≠ t ∧ S0 e.2 = none
  has : Has S0 S
theorem Tn.start {w : World} {ms : List Mv} {d1 d2 : Int} {S0 S : Sto} {t : Addr} (h : S t = some (nwM w t [] [])) (hs : Has S0 S) : Tn w ms d1 d2 S0 t [] [] S :=
  ⟨h, (fun e he => nomatch he), PrsI.nil, List.nodup_nil, (fun e he => nomatch he), hs⟩
section
variable {w : World} {ms : List Mv} {d1 d2 : Int} {S0 S : Sto} {t : Addr} {pre : List Cel} {tl : List (Pr × Addr)} {c : Cel}
theorem cls_snoc (p : Pr) : clsC ms d1 d2 (pre ++ [c]) p = clsC ms d1 d2 pre p ++ (if (difC ms d1 d2 c && decide (prC ms d1 d2 c = p)) = true then [c] else []) := by
  unfold clsC
  rw [List.filter_append]
  congr 1
  cases h : difC ms d1 d2 c && decide (prC ms d1 d2 c = p) with
  | false => rw [List.filter_cons_of_neg (by rw [h]; decide)]; rfl
  | true => rw [List.filter_cons_of_pos (by rw [h])]; rfl
theorem cls_len {post : List Cel} {p : Pr} (e : pre ++ c :: post = celAll) : (clsC ms d1 d2 pre p).length ≤ 256 := by
  have h1 : (clsC ms d1 d2 pre p).length ≤ pre.length := List.length_filter_le _ _
  have := congrArg List.length e
  rw [List.length_append, all_len] at this
  omega
theorem cls_not {post : List Cel} {p : Pr} (e : pre ++ c :: post = celAll) : c ∉ clsC ms d1 d2 pre p := fun h => by
  have h1 : c ∈ pre := (List.mem_filter.mp h).1
  have nd := all_nd
  rw [← e] at nd
  exact (List.nodup_append.mp nd).2.2 c h1 c List.mem_cons_self rfl
theorem put_new1 {L : List Cel} (h : c ∉ L) {v : Pv} : putN (L.map cellP) (L.map fun _ => v) (cellP c) v = (L.map cellP ++ [cellP c], (L.map fun _ => v) ++ [v]) := by
  unfold putN
  rw [hasN_cell, decide_eq_false h, if_neg (by decide)]
theorem Tn.skip (h : Tn w ms d1 d2 S0 t pre tl S) (e : difC ms d1 d2 c = false) : Tn w ms d1 d2 S0 t (pre ++ [c]) tl S := by
  have hc : ∀ p, clsC ms d1 d2 (pre ++ [c]) p = clsC ms d1 d2 pre p := fun p => by
    rw [cls_snoc, e, Bool.false_and, if_neg (by decide), List.append_nil]
  refine ⟨h.here, fun x hx => by rw [hc]; exact h.val x hx, ⟨h.prs.nd, fun p => ?_⟩, h.nda, h.ne, h.has⟩
  rw [h.prs.mem]
  refine ⟨fun ⟨x, hx, r⟩ => ⟨x, List.mem_append_left _ hx, r⟩, fun ⟨x, hx, r⟩ => ?_⟩
  rcases List.mem_append.mp hx with z | z
  · exact ⟨x, z, r⟩
  · rw [List.mem_singleton.mp z, e] at r
    exact absurd r.1 (by decide)
theorem Tn.more (h : Tn w ms d1 d2 S0 t pre tl S) (e : difC ms d1 d2 c = true) {d : Addr} (hd : (prC ms d1 d2 c, d) ∈ tl) {S1 : Sto} (h1 : ∀ b, S b ≠ none → S1 b = S b) :
    Tn w ms d1 d2 S0 t (pre ++ [c]) tl (put S1 d (nkM d ((clsC ms d1 d2 pre (prC ms d1 d2 c)).map cellP ++ [cellP c]) (((clsC ms d1 d2 pre (prC ms d1 d2 c)).map fun _ => Pv.bl true) ++ [.bl true]))) := by
  have hdt := (h.ne _ hd)
  have same : ∀ x ∈ tl, x.2 = d → x.1 = prC ms d1 d2 c := fun x hx hxd => by
    have nd := h.nda
    have : x = (prC ms d1 d2 c, d) := by
      obtain ⟨i, hi, e1⟩ := List.getElem_of_mem hx
      obtain ⟨j, hj, e2⟩ := List.getElem_of_mem hd
      have hi' : i < (tl.map (·.2)).length := by rw [List.length_map]; exact hi
      have hj' : j < (tl.map (·.2)).length := by rw [List.length_map]; exact hj
      have : i = j := (List.getElem_inj (h₀ := hi') (h₁ := hj') nd).mp (by rw [List.getElem_map, List.getElem_map, e1, e2]; exact hxd)
      subst this
      rw [← e1, ← e2]
    rw [this]
  refine ⟨?_, fun x hx => ?_, ⟨h.prs.nd, fun p => ?_⟩, h.nda, h.ne, fun b m hb => ?_⟩
  · rw [put_ne (Ne.symm hdt.1), h1 t (by rw [h.here]; exact Option.some_ne_none _)]
    exact h.here
  · by_cases z : x.2 = d
    · have e1 := same x hx z
      rw [z, put_same, cls_snoc, e1, e, decide_eq_true rfl, Bool.and_true, if_pos rfl, List.map_append, List.map_append]
      rfl
    · rw [put_ne z, h1 _ (by rw [h.val x hx]; exact Option.some_ne_none _), h.val x hx, cls_snoc]
      have : ¬ prC ms d1 d2 c = x.1 := fun w => by
        obtain ⟨xp, xd⟩ := x
        have w : prC ms d1 d2 c = xp := w
        subst w
        have nd := h.prs.nd
        obtain ⟨i, hi, e1⟩ := List.getElem_of_mem hx
        obtain ⟨j, hj, e2⟩ := List.getElem_of_mem hd
        have hi' : i < (tl.map (·.1)).length := by rw [List.length_map]; exact hi
        have hj' : j < (tl.map (·.1)).length := by rw [List.length_map]; exact hj
        have : i = j := (List.getElem_inj (h₀ := hi') (h₁ := hj') nd).mp (by rw [List.getElem_map, List.getElem_map, e1, e2])
        subst this
        rw [e1] at e2
        exact z (congrArg (·.2) e2)
      rw [decide_eq_false this, Bool.and_false, if_neg (by decide), List.append_nil]
  · rw [h.prs.mem]
    refine ⟨fun ⟨x, hx, r⟩ => ⟨x, List.mem_append_left _ hx, r⟩, fun ⟨x, hx, r⟩ => ?_⟩
    rcases List.mem_append.mp hx with z | z
    · exact ⟨x, z, r⟩
    · rw [List.mem_singleton.mp z] at r
      rw [← r.2]
      exact (h.prs.mem _).mp (List.mem_map.mpr ⟨_, hd, rfl⟩)
  · have hbd : b ≠ d := fun z => by rw [z, hdt.2] at hb; cases hb
    rw [put_ne hbd, h1 b (by rw [h.has b m hb]; exact Option.some_ne_none _)]
    exact h.has b m hb
theorem Tn.fresh (h : Tn w ms d1 d2 S0 t pre tl S) (h0 : S0 t = none) (e : difC ms d1 d2 c = true) (hn : ∀ x ∈ tl, x.1 ≠ prC ms d1 d2 c) {d : Addr} (hd : S d = none) {S1 : Sto} (h1 : ∀ b, b ≠ t → b ≠ d → S1 b = S b)
    (h2 : S1 t = some (nwM w t ((tl.map fun e => prP e.1) ++ [prP (prC ms d1 d2 c)]) ((tl.map fun e => .ref e.2) ++ [.ref d]))) (h3 : S1 d = some (nkM d [cellP c] [.bl true])) :
    Tn w ms d1 d2 S0 t (pre ++ [c]) (tl ++ [(prC ms d1 d2 c, d)]) S1 := by
  have hdt : d ≠ t := fun z => by rw [z, h.here] at hd; cases hd
  have hde : ∀ x ∈ tl, x.2 ≠ d := fun x hx z => by
    have := h.val x hx
    rw [z, hd] at this
    cases this
  have none_pre : clsC ms d1 d2 pre (prC ms d1 d2 c) = [] := by
    unfold clsC
    rw [List.filter_eq_nil_iff]
    intro x hx z
    rw [Bool.and_eq_true, decide_eq_true_eq] at z
    obtain ⟨y, hy, e1⟩ := List.mem_map.mp ((h.prs.mem _).mpr ⟨x, hx, z⟩)
    exact hn y hy e1
  have hS0d : S0 d = none := by
    cases q : S0 d with
    | none => rfl
    | some m => rw [h.has d m q] at hd; cases hd
  refine ⟨by rw [h2, List.map_append, List.map_append]; rfl, fun x hx => ?_, ⟨?_, fun p => ?_⟩, ?_, fun x hx => ?_, fun b m hb => ?_⟩
  · rcases List.mem_append.mp hx with z | z
    · rw [h1 _ (h.ne x z).1 (hde x z), h.val x z, cls_snoc]
      have : ¬ prC ms d1 d2 c = x.1 := fun w => hn x z w.symm
      rw [decide_eq_false this, Bool.and_false, if_neg (by decide), List.append_nil]
    · rw [List.mem_singleton.mp z]
      show S1 d = _
      rw [h3, cls_snoc, none_pre, e, decide_eq_true rfl, Bool.and_true, if_pos rfl]
      rfl
  · rw [List.map_append]
    refine List.nodup_append.mpr ⟨h.prs.nd, (by simp), fun a ha b hb => ?_⟩
    obtain ⟨x, hx, rfl⟩ := List.mem_map.mp ha
    rw [List.mem_singleton.mp hb]
    exact hn x hx
  · rw [List.map_append, List.mem_append, h.prs.mem]
    constructor
    · rintro (⟨x, hx, r⟩ | z)
      · exact ⟨x, List.mem_append_left _ hx, r⟩
      · exact ⟨c, List.mem_append_right _ (List.mem_singleton.mpr rfl), e, (List.mem_singleton.mp z).symm⟩
    · rintro ⟨x, hx, r⟩
      rcases List.mem_append.mp hx with z | z
      · exact .inl ⟨x, z, r⟩
      · rw [List.mem_singleton.mp z] at r
        exact .inr (List.mem_singleton.mpr r.2.symm)
  · rw [List.map_append]
    refine List.nodup_append.mpr ⟨h.nda, (by simp), fun a ha b hb => ?_⟩
    obtain ⟨x, hx, rfl⟩ := List.mem_map.mp ha
    rw [List.mem_singleton.mp hb]
    exact hde x hx
  · rcases List.mem_append.mp hx with z | z
    · exact h.ne x z
    · rw [List.mem_singleton.mp z]
      exact ⟨hdt, hS0d⟩
  · have hbd : b ≠ d := fun z => by rw [z, hS0d] at hb; cases hb
    have hbt : b ≠ t := fun z => by rw [z, h0] at hb; cases hb
    rw [h1 b hbt hbd]
    exact h.has b m hb
end
end PL

namespace PL
open PySem PySem.Spec PyProof.Rows L2 PLS PLN
open PySem.W (dataLe dataLt alike AllAlike EachIs)
theorem cof_in : ∀ (n : Nat) (G : Cel → Bool) (ds : Cd), Up 4 ds → 5 ≤ n + ds.length → ∀ k ∈ cofC n G ds, ∀ c ∈ cellsC k, G c = true := fun n G ds hu hn k hk c hc => by
  obtain ⟨pk, uk⟩ := cof_pre n G ds hu k hk
  have hca := cells_in uk.2 uk.1 c hc
  have hp := (mem_pre uk.2 uk.1 hca).mp hc
  exact (cof_cov n G ds hu hn c ((mem_pre hu.2 hu.1 hca).mpr (pk.trans hp))).mp ⟨k, hk, hc⟩
theorem cof_max : ∀ (n : Nat) (G : Cel → Bool) (ds : Cd), ∀ k ∈ cofC n G ds, k = ds ∨ (cellsC k.dropLast).all G = false
  | 0, _, _, k, hk => by cases hk
  | n + 1, G, ds, k, hk => by
    unfold cofC at hk
    split at hk
    · exact .inl (List.mem_singleton.mp hk)
    · rename_i h1
      split at hk
      · cases hk
      · obtain ⟨s, hs, hk⟩ := List.mem_flatMap.mp hk
        rcases cof_max n G (ds ++ [s]) k hk with e | e
        · refine .inr ?_
          rw [e, List.dropLast_concat]
          simpa using h1
        · exact .inr e
theorem cof_noquad (G : Cel → Bool) (b : Cd) : ¬ Quad (cofC 6 G []) b := fun q => by
  have h0 := q 0 (by decide)
  have u0 := (cof_pre 6 G [] up_nil _ h0).2
  have hl : b.length < 4 := by
    have := u0.1
    rw [List.length_append, List.length_singleton] at this
    omega
  have ub : Up 4 b := ⟨by omega, fun x hx => u0.2 x (by simp [hx])⟩
  rcases cof_max 6 G [] _ h0 with e | e
  · have := congrArg List.length e
    rw [List.length_append, List.length_singleton] at this
    cases this
  · rw [List.dropLast_concat] at e
    have : (cellsC b).all G = true := List.all_eq_true.mpr fun c hc => by
      have hca := cells_in ub.2 ub.1 c hc
      obtain ⟨s, hs, ps⟩ := pre_kid (cc_fn c) ((mem_pre ub.2 ub.1 hca).mp hc) hl
      have us := up_kid ub hl hs
      exact cof_in 6 G [] up_nil (by decide) _ (q s hs) c ((mem_pre us.2 us.1 hca).mpr ps)
    rw [this] at e; cases e
theorem apart_le {a b : Cd} (h : apart (cdS a) (cdS b) = true) : leC a b = true := by
  unfold apart at h
  rw [Bool.and_eq_true, strLt_iff] at h
  unfold leC leS
  rw [decide_eq_true_eq]
  exact Std.le_of_lt h.1
theorem apart_ne {a b : Cd} (h : apart (cdS a) (cdS b) = true) : ¬ a <+: b ∧ ¬ b <+: a := by
  unfold apart at h
  rw [Bool.and_eq_true, Bool.not_eq_true', preS_cd] at h
  refine ⟨fun p => ?_, fun p => ?_⟩
  · rw [List.isPrefixOf_iff_prefix.mpr p] at h
    exact absurd h.2 (by decide)
  · have h1 := h.1
    rw [strLt_iff] at h1
    obtain ⟨t, rfl⟩ := p
    have : (cdS b).cps.toList ≤ (cdS (b ++ t)).cps.toList := by
      show b.map (· + 48) ≤ (b ++ t).map (· + 48)
      rw [List.map_append]
      exact List.le_append_left
    exact this h1
theorem cof_isM (G : Cel → Bool) : IsM (covC (cofC 6 G [])) (cofC 6 G []) := by
  have pw := cof_apart 6 G [] up_nil
  refine ⟨fun c hc => ?_, ?_, fun a ha b hb p => ?_, fun d hd => Iff.rfl, cof_noquad G, pw.imp fun h => apart_le h⟩
  · have := (cof_pre 6 G [] up_nil c hc).2
    exact ⟨Nat.le_trans this.1 (by decide), this.2⟩
  · refine pw.imp fun {a b} h => ?_
    rintro rfl
    exact (apart_ne h).1 (List.prefix_refl _)
  · apply Decidable.byContradiction
    intro ne
    obtain ⟨i, hi, e1⟩ := List.getElem_of_mem ha
    obtain ⟨j, hj, e2⟩ := List.getElem_of_mem hb
    rw [List.pairwise_iff_getElem] at pw
    rcases Nat.lt_trichotomy i j with z | z | z
    · have := pw i j hi hj z
      rw [e1, e2] at this
      exact (apart_ne this).1 p
    · subst z
      exact ne (e1.symm.trans e2)
    · have := pw j i hj hi z
      rw [e1, e2] at this
      exact (apart_ne this).2 p
theorem cof_ptn (G : Cel → Bool) {d : Cd} (hd : Ptn d) : covC (cofC 6 G []) d ↔ G (celD (d.take 4)) = true := by
  have h4 : d.take 4 ∈ allC 4 := (allC_mem 4 _).mpr ⟨by rw [List.length_take, hd.1]; rfl, fun x hx => hd.2 x (List.take_subset _ _ hx)⟩
  obtain ⟨h2, h3⟩ := celD_in h4
  rw [← cof_cov 6 G [] up_nil (by decide) (celD (d.take 4)) h2]
  unfold covC
  refine exists_congr fun k => and_congr_right fun hk => ?_
  have uk := (cof_pre 6 G [] up_nil k hk).2
  rw [mem_pre uk.2 uk.1 h2, h3]
  exact ⟨fun p => List.prefix_of_prefix_length_le p (List.take_prefix 4 d) (by rw [List.length_take, hd.1]; exact uk.1), fun p => p.trans (List.take_prefix 4 d)⟩
theorem tr_anti {a b : Trp} (h1 : PySem.W.dataLt (toD (trP b)) (toD (trP a)) = false) (h2 : PySem.W.dataLt (toD (trP a)) (toD (trP b)) = false) : trP a = trP b := by
  have z := lex_total (O := itemOrd) _ _ h2 h1
  have z : PySem.W.keyToks (toD (trP a)) = PySem.W.keyToks (toD (trP b)) := z
  obtain ⟨ac, a1, a2⟩ := a
  obtain ⟨bc, b1, b2⟩ := b
  simp [trP, toD, toDs, PySem.W.keyToks, PySem.W.keyToksAll] at z
  obtain ⟨z1, z2, z3⟩ := z
  have e1 : cdS ac = cdS bc := str_ext (by simpa using z1)
  have e2 : a1 = b1 := str_ext (by simpa using z2)
  have e3 : a2 = b2 := str_ext (by simpa using z3)
  unfold trP
  rw [e1, e2, e3]
theorem tr_sort {A B : List Trp} (p : A.Perm B) : sortP (A.map trP) = sortP (B.map trP) := by
  have pm : (sortP (A.map trP)).Perm (sortP (B.map trP)) := (List.mergeSort_perm _ _).trans ((p.map trP).trans (List.mergeSort_perm _ _).symm)
  refine pm.eq_of_pairwise (le := fun a b => PySem.W.dataLt (toD b) (toD a) = false) (fun a b ha hb h1 h2 => ?_) (sortP_pwR _) (sortP_pwR _)
  obtain ⟨x, _, rfl⟩ := List.mem_map.mp ((List.mergeSort_perm _ _).mem_iff.mp ha)
  obtain ⟨y, _, rfl⟩ := List.mem_map.mp ((List.mergeSort_perm _ _).mem_iff.mp hb)
  exact tr_anti h1 h2
end PL
namespace PL
open PySem PySem.Spec PyProof.Rows L2 PLS PLN
theorem getN_prs (f : Pr → Pv) (p : Pr) : ∀ ps : List Pr, getN (ps.map prP) (ps.map f) (prP p) = if p ∈ ps then some (f p) else none
  | [] => rfl
  | x :: ps => by
    have ih := getN_prs f p ps
    unfold getN at ih ⊢
    rw [List.map_cons, List.map_cons, List.zip_cons_cons]
    by_cases c : x = p
    · rw [List.find?_cons_of_pos (by simpa using pr_kinj.mpr c), if_pos (by rw [c]; exact List.mem_cons_self), c]
      rfl
    · rw [List.find?_cons_of_neg (by simpa using fun z => c (pr_kinj.mp z)), ih]
      by_cases h : p ∈ ps
      · rw [if_pos h, if_pos (List.mem_cons_of_mem _ h)]
      · rw [if_neg h, if_neg fun z => (List.mem_cons.mp z).elim (fun e => c e.symm) h]
theorem hasN_prs (p : Pr) (ps : List Pr) : hasN (ps.map prP) (prP p) = decide (p ∈ ps) := by
  unfold hasN
  rw [Bool.eq_iff_iff, List.any_eq_true, decide_eq_true_eq]
  constructor
  · rintro ⟨z, hz, e⟩
    obtain ⟨x, hx, rfl⟩ := List.mem_map.mp hz
    rw [← pr_kinj.mp (of_decide_eq_true e)]
    exact hx
  · exact fun h => ⟨_, List.mem_map.mpr ⟨p, h, rfl⟩, decide_eq_true rfl⟩
theorem putN_old (f : Pr → Pv) {p : Pr} {ps : List Pr} (h : p ∈ ps) (v : Pv) : putN (ps.map prP) (ps.map f) (prP p) v = (ps.map prP, ps.map fun x => if x = p then v else f x) := by
  unfold putN
  rw [hasN_prs, decide_eq_true h, if_pos rfl, List.zip_map', List.map_map]
  refine Prod.ext rfl (List.map_congr_left fun x _ => ?_)
  show (if toK (prP x) = toK (prP p) then v else f x) = _
  by_cases e : x = p
  · rw [if_pos (pr_kinj.mpr e), if_pos e]
  · rw [if_neg (fun z => e (pr_kinj.mp z)), if_neg e]
theorem putN_nw (f : Pr → Pv) {p : Pr} {ps : List Pr} (h : p ∉ ps) (v : Pv) : putN (ps.map prP) (ps.map f) (prP p) v = (ps.map prP ++ [prP p], ps.map f ++ [v]) := by
  unfold putN
  rw [hasN_prs, decide_eq_false h, if_neg (by decide)]
def clsD (F1 F2 : Cd → Str) (L : List Cd) (p : Pr) : List Cd := L.filter fun c => decide (F1 c ≠ F2 c) && decide ((F1 c, F2 c) = p)
structure PrsD (F1 F2 : Cd → Str) (L : List Cd) (ps : List Pr) : Prop where
  nd : ps.Nodup
  mem : ∀ p, p ∈ ps ↔ ∃ c ∈ L, F1 c ≠ F2 c ∧ (F1 c, F2 c) = p
section
variable {F1 F2 : Cd → Str} {pre : List Cd} {ps : List Pr} {c : Cd}
theorem PrsD.nil : PrsD F1 F2 [] [] := ⟨List.nodup_nil, fun p => by simp⟩
theorem clsD_snoc (p : Pr) : clsD F1 F2 (pre ++ [c]) p = if F1 c ≠ F2 c ∧ (F1 c, F2 c) = p then clsD F1 F2 pre p ++ [c] else clsD F1 F2 pre p := by
  unfold clsD
  rw [List.filter_append]
  by_cases h : F1 c ≠ F2 c ∧ (F1 c, F2 c) = p
  · rw [if_pos h, List.filter_cons_of_pos (by rw [decide_eq_true h.1, decide_eq_true h.2]; rfl)]
    rfl
  · rw [if_neg h, List.filter_cons_of_neg (fun z => h (by rw [Bool.and_eq_true, decide_eq_true_eq, decide_eq_true_eq] at z; exact z)), List.filter_nil, List.append_nil]
theorem PrsD.skip (h : PrsD F1 F2 pre ps) (e : F1 c = F2 c) : PrsD F1 F2 (pre ++ [c]) ps := ⟨h.nd, fun p => by
  rw [h.mem]
  refine ⟨fun ⟨x, hx, r⟩ => ⟨x, List.mem_append_left _ hx, r⟩, fun ⟨x, hx, r⟩ => ?_⟩
  rcases List.mem_append.mp hx with z | z
  · exact ⟨x, z, r⟩
  · rw [List.mem_singleton.mp z] at r
    exact absurd e r.1⟩
theorem PrsD.old (h : PrsD F1 F2 pre ps) (e : F1 c ≠ F2 c) (hp : (F1 c, F2 c) ∈ ps) : PrsD F1 F2 (pre ++ [c]) ps := ⟨h.nd, fun p => by
  refine ⟨fun hq => ?_, fun ⟨x, hx, r⟩ => ?_⟩
  · obtain ⟨x, hx, r⟩ := (h.mem p).mp hq
    exact ⟨x, List.mem_append_left _ hx, r⟩
  rcases List.mem_append.mp hx with z | z
  · exact (h.mem p).mpr ⟨x, z, r⟩
  · rw [List.mem_singleton.mp z] at r
    rw [← r.2]
    exact hp⟩
theorem PrsD.new (h : PrsD F1 F2 pre ps) (e : F1 c ≠ F2 c) (hp : (F1 c, F2 c) ∉ ps) : PrsD F1 F2 (pre ++ [c]) (ps ++ [(F1 c, F2 c)]) := by
  refine ⟨List.nodup_append.mpr ⟨h.nd, by simp, fun a ha b hb => ?_⟩, fun p => ?_⟩
  · rw [List.mem_singleton.mp hb]
    rintro rfl
    exact hp ha
  · rw [List.mem_append, List.mem_singleton, h.mem]
    constructor
    · rintro (⟨x, hx, r⟩ | z)
      · exact ⟨x, List.mem_append_left _ hx, r⟩
      · exact ⟨c, List.mem_append_right _ (List.mem_singleton.mpr rfl), e, z.symm⟩
    · rintro ⟨x, hx, r⟩
      rcases List.mem_append.mp hx with z | z
      · exact .inl ⟨x, z, r⟩
      · rw [List.mem_singleton.mp z] at r
        exact .inr r.2.symm
theorem PrsD.len (h : PrsD F1 F2 pre ps) : ps.length ≤ pre.length := by
  have := nodup_leC (D := pre.map fun c => (F1 c, F2 c)) h.nd fun p hp => by
    obtain ⟨c, hc, _, e⟩ := (h.mem p).mp hp
    exact List.mem_map.mpr ⟨c, hc, e⟩
  rwa [List.length_map] at this
theorem clsD_new (h : PrsD F1 F2 pre ps) {p : Pr} (hp : p ∉ ps) : clsD F1 F2 pre p = [] := by
  unfold clsD
  rw [List.filter_eq_nil_iff]
  intro x hx z
  rw [Bool.and_eq_true, decide_eq_true_eq, decide_eq_true_eq] at z
  exact hp ((h.mem p).mpr ⟨x, hx, z⟩)
end
theorem PrsD.toI {ms : List Mv} (hm : ∀ m ∈ ms, CdOk m.2.1) {d1 d2 : Int} {ps : List Pr} (h : PrsD (fun c => ownOf ms c d1) (fun c => ownOf ms c d2) (allC 4) ps) : PrsI ms d1 d2 celAll ps := by
  refine ⟨h.nd, fun p => ?_⟩
  rw [h.mem]
  unfold difC prC
  constructor
  · rintro ⟨c, hc, r1, r2⟩
    obtain ⟨h2, h3⟩ := celD_in hc
    rw [own_cel hm d1 hc, own_cel hm d2 hc] at r1 r2
    exact ⟨celD c, h2, decide_eq_true (Ne.symm r1), r2⟩
  · rintro ⟨c, hc, r1, r2⟩
    refine ⟨cc c, cc_all, ?_, ?_⟩
    · rw [own_cel hm d1 cc_all, own_cel hm d2 cc_all, celD_cc hc]
      exact Ne.symm (of_decide_eq_true r1)
    · rw [own_cel hm d1 cc_all, own_cel hm d2 cc_all, celD_cc hc]
      exact r2
theorem cls_isM {ms : List Mv} (hm : ∀ m ∈ ms, CdOk m.2.1) {d1 d2 : Int} {p : Pr} {M : List Cd} (h : IsM (covC (clsD (fun c => ownOf ms c d1) (fun c => ownOf ms c d2) (allC 4) p)) M) : M = cofC 6 (fun c => decide (c ∈ clsC ms d1 d2 celAll p)) [] := by
  refine h.uniq (cof_isM _) fun d hd => ?_
  have h4 : d.take 4 ∈ allC 4 := (allC_mem 4 _).mpr ⟨by rw [List.length_take, hd.1]; rfl, fun x hx => hd.2 x (List.take_subset _ _ hx)⟩
  obtain ⟨h2, h3⟩ := celD_in h4
  rw [cof_ptn _ hd, decide_eq_true_eq]
  unfold clsC
  rw [List.mem_filter]
  unfold difC prC
  rw [Bool.and_eq_true, decide_eq_true_eq, decide_eq_true_eq, ← own_cel hm d1 h4, ← own_cel hm d2 h4]
  constructor
  · rintro ⟨k, hk, pk⟩
    unfold clsD at hk
    rw [List.mem_filter, Bool.and_eq_true, decide_eq_true_eq, decide_eq_true_eq] at hk
    have hl := ((allC_mem 4 k).mp hk.1).1
    have e : k = d.take 4 := (List.prefix_of_prefix_length_le pk (List.take_prefix 4 d) (by rw [List.length_take, hd.1, hl]; decide)).eq_of_length (by rw [List.length_take, hd.1, hl]; rfl)
    rw [← e]
    exact ⟨by rw [e]; exact h2, Ne.symm hk.2.1, hk.2.2⟩
  · rintro ⟨_, r1, r2⟩
    refine ⟨d.take 4, ?_, List.take_prefix 4 d⟩
    unfold clsD
    rw [List.mem_filter, Bool.and_eq_true, decide_eq_true_eq, decide_eq_true_eq]
    exact ⟨h4, Ne.symm r1, r2⟩
theorem prs_perm {ms : List Mv} {d1 d2 : Int} {ps qs : List Pr} (h : PrsI ms d1 d2 celAll ps) (h' : PrsI ms d1 d2 celAll qs) : sortP ((chgL ms d1 d2 ps).map trP) = sortP ((chgL ms d1 d2 qs).map trP) := by
  refine tr_sort ?_
  unfold chgL
  refine List.Perm.flatMap_right _ ?_
  exact (List.perm_ext_iff_of_nodup h.nd h'.nd).mpr fun p => (h.mem p).trans (h'.mem p).symm
theorem chg_len (ms : List Mv) (d1 d2 : Int) : ∀ ps : List Pr, (chgL ms d1 d2 ps).length ≤ ps.length * 1024
  | [] => Nat.zero_le _
  | p :: ps => by
    have h := chg_len ms d1 d2 ps
    have h2 := cof_len 6 (fun c => decide (c ∈ clsC ms d1 d2 celAll p)) []
    unfold chgL at h ⊢
    rw [List.flatMap_cons, List.length_append, List.length_map, List.length_cons, Nat.succ_mul]
    have : 4 ^ (6 - 1) = 1024 := by decide
    omega
theorem chg_snoc (ms : List Mv) (d1 d2 : Int) (ps : List Pr) (p : Pr) : chgL ms d1 d2 (ps ++ [p]) = chgL ms d1 d2 ps ++ (cofC 6 (fun c => decide (c ∈ clsC ms d1 d2 celAll p)) []).map fun d => (d, p) := by
  unfold chgL
  rw [List.flatMap_append]
  congr 1
  rw [List.flatMap_cons, List.flatMap_nil, List.append_nil]
theorem kvs_cds {f : Cd → Str} : ∀ (L : List Cd) (kvs : List (Key × V)), (kvs.map fun kv => kPv kv.1) = L.map cdK → (kvs.map fun kv => some kv.2) = (L.map fun c => Pv.str (f c)).map scV → kvs = L.map fun c => (Sum.inr (cdS c), V.str (f c))
  | [], [], _, _ => rfl
  | [], _ :: _, h, _ => by cases h
  | _ :: _, [], h, _ => by cases h
  | c :: L, (k, v) :: kvs, h1, h2 => by
    rw [List.map_cons, List.map_cons] at h1
    rw [List.map_cons, List.map_cons, List.map_cons] at h2
    injection h1 with a1 a2
    injection h2 with b1 b2
    have b1 : some v = some (V.str (f c)) := b1
    have ek : k = Sum.inr (cdS c) := by
      cases k with
      | inl i => cases a1
      | inr x =>
        have a1 : Pv.str x = .str (cdS c) := a1
        cases a1; rfl
    rw [List.map_cons, ← kvs_cds L kvs a2 b2, ek, Option.some.inj b1]
theorem valV_cds {f : Cd → Str} {d : Cd} : ∀ {L : List Cd}, d ∈ L → valV (L.map fun c => ((Sum.inr (cdS c) : Key), V.str (f c))) (Sum.inr (cdS d)) = some (.str (f d))
  | c :: L, h => by
    unfold valV
    rw [List.map_cons]
    by_cases e : c = d
    · subst e
      rw [List.find?_cons_of_pos (by simp)]
      rfl
    · rw [List.find?_cons_of_neg (by simpa using fun z => e (cd_inj z))]
      exact valV_cds ((List.mem_cons.mp h).elim (fun z => absurd z.symm e) id)
theorem getK_cds {f : Cd → Pv} {d : Cd} : ∀ {L : List Cd}, d ∈ L → getK (L.map cdK) (L.map f) (cdK d) = some (f d)
  | c :: L, h => by
    show (if kyP (cdK c) = kyP (cdK d) then some (f c) else getK (L.map cdK) (L.map f) (cdK d)) = _
    by_cases e : c = d
    · rw [e, if_pos rfl]
    · rw [if_neg (fun z => e (cd_inj (by injection z with z; injection z)))]
      exact getK_cds ((List.mem_cons.mp h).elim (fun z => absurd z.symm e) id)
theorem put_idS {S : Sto} {a : Addr} {m : Mo} (h : S a = some m) : put S a m = S := by
  funext b
  by_cases c : b = a
  · rw [c, put_same, h]
  · rw [put_ne c]
end PL

namespace PL
open PySem PySem.Spec PyProof.Rows L2
def v_CELLS : Pv := (.int 16)
def v_FIGURES : Pv := (.str "0123")
def v_MOST_CODES : Pv := (.int 1024)
def v_MOST_DEPTH : Pv := (.int 9)
def v_MOST_FIGURES : Pv := (.int 4)
def v_MOST_MOVES : Pv := (.int 24)
def v_NOBODY : Pv := (.str "land")
def v_SMALL : Pv := (.str "abcdefghijklmnopqrstuvwxyz")

def sp_is_whole : PSp := SpF (fun (x : Pv) => [x]) (fun x => tyD x = true) fun x => .bl (isIntP x)
def b_is_whole : PFS :=
  gRet (fAndV (f1 (oIsi .int) (fVar 0)) (fNotV (f1 (oIsi .bl) (fVar 0))))
theorem len_is_whole : ∀ (xs : List Pv) (S : Sto) (Q : QV) (E : QE), sp_is_whole xs S Q E → xs.length = 1 := SpF.len fun _ => rfl
theorem mono_is_whole : ∀ (xs : List Pv) (S : Sto) (Q Q' : QV) (E E' : QE), (∀ p S', Q p S' → Q' p S') → (∀ C S', E C S' → E' C S') → sp_is_whole xs S Q E → sp_is_whole xs S Q' E' := SpF.mono
theorem ex_is_whole {xs : List Pv} {S0 : Sto} {Q : QV} {Ep : QE} : sp_is_whole xs S0 Q Ep → b_is_whole (endD Q) (st0 1 xs) S0 := SpF.ex fun x S Q h q => by
  cases x with
  | ref a => cases h
  | ty n => cases h
  | tpx n => cases h
  | _ => exact Out.id q

def sp_is_word : PSp := SpF (fun (x : Pv) => [x]) (fun x => smP x = true) fun x => .bl (wordP x)
def b_is_word : PFS :=
  gRet (fAndV (f1 (oIsi .str) (fVar 0)) (fAndV (fChain oLe oLe (fC (.int 1)) (fN oLen (fCons (fVar 0) (fNil))) (fC (.int 8))) (fN oAll (fCons (fLc (fIt (fVar 0)) (.nm 1) (fYes) (f2 (oIn false) (fVar 1) (fC v_SMALL)) [1]) (fNil)))))
theorem len_is_word : ∀ (xs : List Pv) (S : Sto) (Q : QV) (E : QE), sp_is_word xs S Q E → xs.length = 1 := SpF.len fun _ => rfl
theorem mono_is_word : ∀ (xs : List Pv) (S : Sto) (Q Q' : QV) (E E' : QE), (∀ p S', Q p S' → Q' p S') → (∀ C S', E C S' → E' C S') → sp_is_word xs S Q E → sp_is_word xs S Q' E' := SpF.mono
theorem ex_is_word {xs : List Pv} {S0 : Sto} {Q : QV} {Ep : QE} : sp_is_word xs S0 Q Ep → b_is_word (endD Q) (st0 2 xs) S0 := SpF.ex fun x S Q h q => by
  cases x with
  | ref a => cases h
  | ty n => cases h
  | scr n => cases h
  | tpx n => cases h
  | str x =>
    have hl := smP_str h
    have q : Q (.bl ((decide (1 ≤ x.length) && decide (x.length ≤ 8)) && x.cps.toList.all smallC)) S := q
    conv => whnf
    rw [len_str hl]
    refine cnd_i (b := decide ((1 : Int) ≤ (x.length : Nat))) (fun e1 => ?_) (fun e1 => ?_)
    · refine cnd_i (b := decide (((x.length : Nat) : Int) ≤ 8)) (fun e2 => ?_) (fun e2 => ?_)
      · conv => whnf
        rw [chars_map]
        refine lc_map x.cps.toList (fun c => .str ⟨#[c]⟩) (fun c => .bl (smallC c)) rfl (Nat.le_trans hl (by decide)) (fun _ _ => trivial) (fun c hc S2 _ => ⟨_, rfl, fun k hk => ?_⟩) ?_
        · have e := in_small c
          rw [← e] at hk
          exact hk
        · refine all_i (f := smallC) (xs := x.cps.toList) (Out.id ?_)
          have e3 : (decide (1 ≤ x.length) && decide (x.length ≤ 8)) = true := by
            have := of_decide_eq_true e1
            have := of_decide_eq_true e2
            rw [decide_eq_true (show 1 ≤ x.length by omega), decide_eq_true (show x.length ≤ 8 by omega)]; rfl
          rw [e3, Bool.true_and] at q
          rw [List.all_map]
          exact q
      · have e3 : (decide (1 ≤ x.length) && decide (x.length ≤ 8)) = false := by
          have := of_decide_eq_false e2
          rw [decide_eq_false (show ¬ x.length ≤ 8 by omega), Bool.and_false]
        rw [e3, Bool.false_and] at q
        exact Out.id q
    · have e3 : (decide (1 ≤ x.length) && decide (x.length ≤ 8)) = false := by
        have := of_decide_eq_false e1
        rw [decide_eq_false (show ¬ 1 ≤ x.length by omega), Bool.false_and]
      rw [e3, Bool.false_and] at q
      exact Out.id q
  | _ => exact Out.id q

theorem ris_step {x y : Pv} {xs : List Pv} (hk : kindS xs) (hx : x ∈ xs) (hy : y ∈ xs) {S : Sto} {Q : QV} (q : Q (.bl (ltP x y)) S) : oLt x y S Q := by
  rcases hk with ⟨ss, rfl⟩ | ⟨is, rfl⟩
  · obtain ⟨a, _, rfl⟩ := List.mem_map.mp hx
    obtain ⟨b, _, rfl⟩ := List.mem_map.mp hy
    exact q
  · obtain ⟨a, _, rfl⟩ := List.mem_map.mp hx
    obtain ⟨b, _, rfl⟩ := List.mem_map.mp hy
    exact q
def tl2 (b : Bool) (xs : List Pv) : Pv := match b with
  | true => .tup xs
  | false => .lst xs
def sp_rises : PSp := SpF (fun (a : Bool × List Pv) => [tl2 a.1 a.2]) (fun a => kindS a.2 ∧ a.2.length ≤ 1000) fun a => .bl (risP a.2)
def b_rises : PFS :=
  gRet (fN oAll (fCons (fLc (fZip (fCons (fVar 0) (fCons (fSl (fVar 0) (fPart (fC (.int 1))) (fNoPart)) (fNil)))) (.tp [.nm 1, .nm 2]) (fYes) (f2 oLt (fVar 1) (fVar 2)) [1, 2]) (fNil)))
theorem len_rises : ∀ (xs : List Pv) (S : Sto) (Q : QV) (E : QE), sp_rises xs S Q E → xs.length = 1 := SpF.len fun _ => rfl
theorem mono_rises : ∀ (xs : List Pv) (S : Sto) (Q Q' : QV) (E E' : QE), (∀ p S', Q p S' → Q' p S') → (∀ C S', E C S' → E' C S') → sp_rises xs S Q E → sp_rises xs S Q' E' := SpF.mono
theorem ex_rises {xs : List Pv} {S0 : Sto} {Q : QV} {Ep : QE} : sp_rises xs S0 Q Ep → b_rises (endD Q) (st0 3 xs) S0 := SpF.ex fun ⟨b, xs⟩ S Q ⟨hk, hl⟩ q => by
  have hk : kindS xs := hk
  have hl : xs.length ≤ 1000 := hl
  have q : Q (.bl (risP xs)) S := q
  have main : ∀ gd : Sto → Prop, (∀ S', Has S S' → gd S') → ∀ D, S D = none → lcW gd (.tp [.nm 1, .nm 2]) fYes (f2 oLt (fVar 1) (fVar 2)) [some (tl2 b xs), none, none] D (fun acc S' => oAll [.lst acc] S' (Out Q)) (zipP xs xs.tail) [] S := by
    intro gd hg
    rw [zipP_zip]
    refine lc_map (xs.zip xs.tail) (fun p => .tup [p.1, p.2]) (fun p => .bl (ltP p.1 p.2)) rfl (by rw [List.length_zip]; exact Nat.le_trans (Nat.min_le_left _ _) (Nat.le_trans hl (by decide))) hg (fun p hp S2 _ => ⟨_, rfl, fun k hk2 => ?_⟩) ?_
    · have h1 := List.of_mem_zip hp
      exact ris_step hk h1.1 (List.mem_of_mem_tail h1.2) hk2
    · refine all_i (f := fun p : Pv × Pv => ltP p.1 p.2) (xs := xs.zip xs.tail) (Out.id ?_)
      rw [List.all_map]
      exact q
  cases b with
  | true =>
    conv => whnf
    rw [cut_tail]
    exact main _ fun _ _ => trivial
  | false =>
    conv => whnf
    rw [cut_tail]
    exact main _ fun _ _ => ⟨trivial, trivial⟩

def sp_is_row : PSp := SpF (fun (a : Pv × Nat × Nat × Nat) => [a.1, .int a.2.1, .int a.2.2.1, .int a.2.2.2]) (fun a => smP a.1 = true) fun a => .bl (rowP a.2.1 a.2.2.1 a.2.2.2 a.1)
def b_is_row : PFS :=
  gSeq (gIf (fOr (fNot (fBV (f1 (oIsi .tup) (fVar 0)))) (fNot (fBV (fChain oLe oLe (fVar 1) (fN oLen (fCons (fVar 0) (fNil))) (fVar 2))))) (gRet (fC (.bl false))) (gNext))
    (gRet (fN oAll (fCons (fLc (fIt (fVar 0)) (.nm 4) (fYes) (fAndV (f1 (oIsi .tup) (fVar 4)) (f2 oEq (fN oLen (fCons (fVar 4) (fNil))) (fVar 3))) [4]) (fNil))))
theorem len_is_row : ∀ (xs : List Pv) (S : Sto) (Q : QV) (E : QE), sp_is_row xs S Q E → xs.length = 4 := SpF.len fun _ => rfl
theorem mono_is_row : ∀ (xs : List Pv) (S : Sto) (Q Q' : QV) (E E' : QE), (∀ p S', Q p S' → Q' p S') → (∀ C S', E C S' → E' C S') → sp_is_row xs S Q E → sp_is_row xs S Q' E' := SpF.mono
theorem ex_is_row {xs : List Pv} {S0 : Sto} {Q : QV} {Ep : QE} : sp_is_row xs S0 Q Ep → b_is_row (endD Q) (st0 5 xs) S0 := SpF.ex fun ⟨x, a, b, n⟩ S Q h q => by
  have h : smP x = true := h
  cases x with
  | ref a => cases h
  | ty n => cases h
  | scr n => cases h
  | tpx n => cases h
  | tup xs =>
    obtain ⟨hl, hs⟩ := smP_tup h
    have q : Q (.bl ((decide (a ≤ xs.length) && decide (xs.length ≤ b)) && xs.all (tupN n))) S := q
    have low : (decide (a ≤ xs.length) && decide (xs.length ≤ b)) = false → Out Q (.bl false) S := fun e => by
      rw [e, Bool.false_and] at q
      exact Out.id q
    refine cnd_i (b := decide ((a : Int) ≤ (xs.length : Nat))) (fun e1 => ?_) (fun e1 => ?_)
    · refine cnd_i (b := !decide (((xs.length : Nat) : Int) ≤ b)) (fun e2 => ?_) (fun e2 => ?_)
      · have := of_decide_eq_false (by simpa using e2 : decide (((xs.length : Nat) : Int) ≤ b) = false)
        exact low (by rw [decide_eq_false (show ¬ xs.length ≤ b by omega), Bool.and_false])
      · have e4 := of_decide_eq_true e1
        have e5 := of_decide_eq_true (by simpa using e2 : decide (((xs.length : Nat) : Int) ≤ b) = true)
        rw [decide_eq_true (show a ≤ xs.length by omega), decide_eq_true (show xs.length ≤ b by omega)] at q
        refine lc_map xs (fun x => x) (fun x => .bl (tupN n x)) (by rw [List.map_id']) (Nat.le_trans hl (by decide)) (fun _ _ => trivial) (fun y hy S2 _ => ⟨_, rfl, fun k hk => ?_⟩) ?_
        · have hy := smPs_mem hs y hy
          cases y with
          | ref a => cases hy
          | ty n => cases hy
          | scr n => cases hy
          | tpx n => cases hy
          | tup ys =>
            have hk : k (.bl (decide (ys.length = n))) S2 := hk
            have e : decide (((ys.length : Nat) : Int) = (n : Nat)) = decide (ys.length = n) := decide_eq_decide.mpr (by omega)
            rw [← e] at hk
            exact hk
          | _ => exact hk
        · refine all_i (f := tupN n) (xs := xs) (Out.id ?_)
          rw [List.all_map]
          exact q
    · have := of_decide_eq_false e1
      exact low (by rw [decide_eq_false (show ¬ a ≤ xs.length by omega), Bool.false_and])
  | _ => exact Out.id q

def sp_is_day : PSp := SpF (fun (x : Pv) => [x]) (fun x => smP x = true) fun x => .bl (dayP x)
def b_is_day : PFS :=
  gRet (fAndV (fCall sp_is_whole [] noE (fCons (fVar 0) (fNil))) (f2 oGe (fVar 0) (fC (.int 0))))
theorem len_is_day : ∀ (xs : List Pv) (S : Sto) (Q : QV) (E : QE), sp_is_day xs S Q E → xs.length = 1 := SpF.len fun _ => rfl
theorem mono_is_day : ∀ (xs : List Pv) (S : Sto) (Q Q' : QV) (E E' : QE), (∀ p S', Q p S' → Q' p S') → (∀ C S', E C S' → E' C S') → sp_is_day xs S Q E → sp_is_day xs S Q' E' := SpF.mono
theorem ex_is_day {xs : List Pv} {S0 : Sto} {Q : QV} {Ep : QE} : sp_is_day xs S0 Q Ep → b_is_day (endD Q) (st0 1 xs) S0 := SpF.ex fun x S Q h q => by
  refine ⟨x, rfl, smP_ty x h, ?_⟩
  cases x with
  | int i => exact Out.id q
  | _ => exact Out.id q

def sp_need_day : PSp := SpF (fun (a : Int × Int) => [.int a.1, .int a.2]) (fun a => 0 ≤ a.1 ∧ a.2 ≤ a.1) fun _ => .non
def b_need_day : PFS :=
  gIf (fOr (fNot (fBV (fCall sp_is_day [] noE (fCons (fVar 0) (fNil))))) (fBV (f2 oLt (fVar 0) (fVar 1)))) (gNever) (gNext)
theorem len_need_day : ∀ (xs : List Pv) (S : Sto) (Q : QV) (E : QE), sp_need_day xs S Q E → xs.length = 2 := SpF.len fun _ => rfl
theorem mono_need_day : ∀ (xs : List Pv) (S : Sto) (Q Q' : QV) (E E' : QE), (∀ p S', Q p S' → Q' p S') → (∀ C S', E C S' → E' C S') → sp_need_day xs S Q E → sp_need_day xs S Q' E' := SpF.mono
theorem ex_need_day {xs : List Pv} {S0 : Sto} {Q : QV} {Ep : QE} : sp_need_day xs S0 Q Ep → b_need_day (endD Q) (st0 2 xs) S0 := SpF.ex fun ⟨d, least⟩ S Q ⟨h0, h1⟩ k => by
  have h0 : 0 ≤ d := h0
  have h1 : least ≤ d := h1
  refine ⟨.int d, rfl, rfl, cnd_f (b := !decide (0 ≤ d)) (by rw [decide_eq_true h0]; rfl) (cnd_f (b := decide (d < least)) (decide_eq_false (by omega)) (Out.id k))⟩

def sp_is_code : PSp := SpF (fun (x : Pv) => [x]) (fun x => smP x = true) fun x => .bl (codeP x)
def b_is_code : PFS :=
  gRet (fAndV (f1 (oIsi .str) (fVar 0)) (fAndV (f2 oLe (fN oLen (fCons (fVar 0) (fNil))) (fC v_MOST_DEPTH)) (fN oAll (fCons (fLc (fIt (fVar 0)) (.nm 1) (fYes) (f2 (oIn false) (fVar 1) (fC v_FIGURES)) [1]) (fNil)))))
theorem len_is_code : ∀ (xs : List Pv) (S : Sto) (Q : QV) (E : QE), sp_is_code xs S Q E → xs.length = 1 := SpF.len fun _ => rfl
theorem mono_is_code : ∀ (xs : List Pv) (S : Sto) (Q Q' : QV) (E E' : QE), (∀ p S', Q p S' → Q' p S') → (∀ C S', E C S' → E' C S') → sp_is_code xs S Q E → sp_is_code xs S Q' E' := SpF.mono
theorem ex_is_code {xs : List Pv} {S0 : Sto} {Q : QV} {Ep : QE} : sp_is_code xs S0 Q Ep → b_is_code (endD Q) (st0 2 xs) S0 := SpF.ex fun x S Q h q => by
  cases x with
  | ref a => cases h
  | ty n => cases h
  | scr n => cases h
  | tpx n => cases h
  | str x =>
    have hl := smP_str h
    have q : Q (.bl (decide (x.length ≤ 9) && x.cps.toList.all figC)) S := q
    conv => whnf
    rw [len_str hl]
    refine cnd_i (b := decide (((x.length : Nat) : Int) ≤ 9)) (fun e1 => ?_) (fun e1 => ?_)
    · conv => whnf
      rw [chars_map]
      refine lc_map x.cps.toList (fun c => .str ⟨#[c]⟩) (fun c => .bl (figC c)) rfl (Nat.le_trans hl (by decide)) (fun _ _ => trivial) (fun c hc S2 _ => ⟨_, rfl, fun k hk => ?_⟩) ?_
      · have e := in_fig c
        rw [← e] at hk
        exact hk
      · refine all_i (f := figC) (xs := x.cps.toList) (Out.id ?_)
        have := of_decide_eq_true e1
        rw [decide_eq_true (show x.length ≤ 9 by omega), Bool.true_and] at q
        rw [List.all_map]
        exact q
    · have := of_decide_eq_false e1
      rw [decide_eq_false (show ¬ x.length ≤ 9 by omega), Bool.false_and] at q
      exact Out.id q
  | _ => exact Out.id q

def sp_are_codes : PSp := SpF (fun (a : Pv × Nat) => [a.1, .int a.2]) (fun a => smP a.1 = true) fun a => .bl (codesP a.2 a.1)
def b_are_codes : PFS :=
  gSeq (gIf (fOr (fNot (fBV (f1 (oIsi .tup) (fVar 0)))) (fBV (f2 oGt (fN oLen (fCons (fVar 0) (fNil))) (fC v_MOST_CODES)))) (gRet (fC (.bl false))) (gNext))
    (gSeq (gIf (fOr (fNot (fBV (fN oAll (fCons (fLc (fIt (fVar 0)) (.nm 2) (fYes) (fAndV (fCall sp_is_code [] noE (fCons (fVar 2) (fNil))) (f2 oLe (fN oLen (fCons (fVar 2) (fNil))) (fVar 1))) [2]) (fNil))))) (fNot (fBV (fCall sp_rises [] noE (fCons (fVar 0) (fNil)))))) (gRet (fC (.bl false))) (gNext))
    (gRet (fNotV (fN oAny (fCons (fLc (fZip (fCons (fVar 0) (fCons (fSl (fVar 0) (fPart (fC (.int 1))) (fNoPart)) (fNil)))) (.tp [.nm 2, .nm 3]) (fYes) (fMs oStarts (fVar 3) (fVar 2)) [2, 3]) (fNil))))))
theorem len_are_codes : ∀ (xs : List Pv) (S : Sto) (Q : QV) (E : QE), sp_are_codes xs S Q E → xs.length = 2 := SpF.len fun _ => rfl
theorem mono_are_codes : ∀ (xs : List Pv) (S : Sto) (Q Q' : QV) (E E' : QE), (∀ p S', Q p S' → Q' p S') → (∀ C S', E C S' → E' C S') → sp_are_codes xs S Q E → sp_are_codes xs S Q' E' := SpF.mono
theorem ex_are_codes {xs : List Pv} {S0 : Sto} {Q : QV} {Ep : QE} : sp_are_codes xs S0 Q Ep → b_are_codes (endD Q) (st0 4 xs) S0 := SpF.ex fun ⟨x, n⟩ S Q h q => by
  have h : smP x = true := h
  cases x with
  | ref a => cases h
  | ty n => cases h
  | scr n => cases h
  | tpx n => cases h
  | tup xs =>
    obtain ⟨hl, hs⟩ := smP_tup h
    have q2 : Q (.bl (match allS xs with | some ss => codesS n ss | none => false)) S := q
    clear q
    refine cnd_f (b := decide ((1024 : Int) < (xs.length : Nat))) (decide_eq_false (by omega)) ?_
    refine lc_map xs (fun x => x) (fun x => .bl (codeNP n x)) (by rw [List.map_id']) (Nat.le_trans hl (by decide)) (fun _ _ => trivial) (fun y hy S2 _ => ⟨_, rfl, fun k hk => ?_⟩) ?_
    · have hy := smPs_mem hs y hy
      refine ⟨y, rfl, hy, ?_⟩
      cases y with
      | str z =>
        have hk : k (.bl (codeS z && decide (z.length ≤ n))) S2 := hk
        refine cnd_i (b := codeS z) (fun e => ?_) (fun e => ?_)
        · conv => whnf
          rw [len_str (smP_str hy)]
          rw [e, Bool.true_and] at hk
          have e2 : decide (((z.length : Nat) : Int) ≤ (n : Nat)) = decide (z.length ≤ n) := decide_eq_decide.mpr (by omega)
          rw [← e2] at hk
          exact hk
        · rw [e, Bool.false_and] at hk
          exact hk
      | _ => exact hk
    conv => whnf
    rw [bl_list]
    refine cnd_i (b := !(xs.map (codeNP n)).all id) (fun e => ?_) (fun e => ?_) <;> rw [List.all_map] at e <;> replace e : (!xs.all (codeNP n)) = _ := e
    · refine Out.id ?_
      cases hS : allS xs with
      | none => rw [hS] at q2; exact q2
      | some ss =>
        rw [hS] at q2
        have e1 := allS_is hS
        subst e1
        have e2 : (ss.map Pv.str).all (codeNP n) = ss.all (codeN n) := by rw [List.all_map]; rfl
        rw [e2] at e
        have e3 : ss.all (codeN n) = false := by simpa using e
        have q : Q (.bl (ss.all (codeN n) && _)) S := q2
        rw [e3, Bool.false_and] at q
        exact q
    have e : xs.all (codeNP n) = true := by simpa using e
    cases hS : allS xs with
    | none =>
      have := allS_none.mp hS
      obtain ⟨y, hy, hn⟩ := List.all_eq_false.mp this
      have := List.all_eq_true.mp e y hy
      cases y <;> simp [isStrP, codeNP] at hn this
    | some ss =>
      rw [hS] at q2
      have e1 := allS_is hS
      subst e1
      have e2 : (ss.map Pv.str).all (codeNP n) = ss.all (codeN n) := by rw [List.all_map]; rfl
      rw [e2] at e
      have q : Q (.bl (ss.all (codeN n) && (ss.zip ss.tail).all fun p => apart p.1 p.2)) S := q2
      rw [e, Bool.true_and, adj_apart] at q
      refine ⟨(true, ss.map .str), rfl, ⟨.inl ⟨ss, rfl⟩, hl⟩, ?_⟩
      refine cnd_i (b := !risP (ss.map .str)) (fun e3 => ?_) (fun e3 => ?_)
      · rw [risP_str] at e3
        have e3 : ((ss.zip ss.tail).all fun p => strLt p.1 p.2) = false := by simpa using e3
        rw [e3, Bool.false_and] at q
        exact Out.id q
      · rw [risP_str] at e3
        have e3 : ((ss.zip ss.tail).all fun p => strLt p.1 p.2) = true := by simpa using e3
        rw [e3, Bool.true_and] at q
        conv => whnf
        rw [cut_tail, ← List.map_tail, zipP_zip, List.zip_map, List.map_map]
        refine lc_map (ss.zip ss.tail) ((fun p : Pv × Pv => .tup [p.1, p.2]) ∘ Prod.map Pv.str Pv.str) (fun p => .bl (preS p.1 p.2)) rfl (by rw [List.length_zip]; rw [List.length_map] at hl; exact Nat.le_trans (Nat.min_le_left _ _) (Nat.le_trans hl (by decide))) (fun _ _ => trivial) (fun p hp S2 _ => ⟨_, rfl, fun k hk2 => ⟨rfl, hk2⟩⟩) ?_
        conv => whnf
        rw [bl_list]
        refine Out.id ?_
        show Q (.bl (!((ss.zip ss.tail).map fun p : Str × Str => preS p.1 p.2).any id)) S
        rw [List.any_map]
        exact q
  | _ => exact Out.id q

def sp_are_moves : PSp := SpF (fun (x : Pv) => [x]) (fun x => smP x = true) fun x => .bl (movesP x)
def b_are_moves : PFS :=
  gSeq (gIf (fNot (fBV (fCall sp_is_row [] noE (fCons (fVar 0) (fCons (fC (.int 0)) (fCons (fC v_MOST_MOVES) (fCons (fC (.int 3)) (fNil)))))))) (gRet (fC (.bl false))) (gNext))
    (gSeq (gIf (fNot (fBV (fN oAll (fCons (fLc (fIt (fVar 0)) (.tp [.nm 2, .nm 3, .nm 4]) (fYes) (fAndV (fCall sp_is_day [] noE (fCons (fVar 2) (fNil))) (fAndV (fCall sp_are_codes [] noE (fCons (fVar 3) (fCons (fC v_MOST_FIGURES) (fNil)))) (fCall sp_is_word [] noE (fCons (fVar 4) (fNil))))) [2, 3, 4]) (fNil))))) (gRet (fC (.bl false))) (gNext))
    (gSeq (gIf (fBV (fN oAny (fCons (fLc (fIt (fVar 0)) (.tp [.nm 2, .nm 3, .nm 4]) (fYes) (f2 oEq (fVar 3) (fN oTup (fNil))) [2, 3, 4]) (fNil)))) (gRet (fC (.bl false))) (gNext))
    (gSeq (gSet 1 (fLc (fIt (fVar 0)) (.tp [.nm 2, .nm 3, .nm 4]) (fYes) (fVar 2) [2, 3, 4]))
    (gRet (fN oAll (fCons (fLc (fZip (fCons (fVar 1) (fCons (fSl (fVar 1) (fPart (fC (.int 1))) (fNoPart)) (fNil)))) (.tp [.nm 5, .nm 6]) (fYes) (f2 oLe (fVar 5) (fVar 6)) [5, 6]) (fNil)))))))
theorem len_are_moves : ∀ (xs : List Pv) (S : Sto) (Q : QV) (E : QE), sp_are_moves xs S Q E → xs.length = 1 := SpF.len fun _ => rfl
theorem mono_are_moves : ∀ (xs : List Pv) (S : Sto) (Q Q' : QV) (E E' : QE), (∀ p S', Q p S' → Q' p S') → (∀ C S', E C S' → E' C S') → sp_are_moves xs S Q E → sp_are_moves xs S Q' E' := SpF.mono
theorem ex_are_moves {xs : List Pv} {S0 : Sto} {Q : QV} {Ep : QE} : sp_are_moves xs S0 Q Ep → b_are_moves (endD Q) (st0 7 xs) S0 := SpF.ex fun x S Q h q => by
  refine ⟨(x, 0, 24, 3), rfl, h, ?_⟩
  refine cnd_i (b := !rowP 0 24 3 x) (fun e => ?_) (fun e => ?_)
  · have e : rowP 0 24 3 x = false := by simpa using e
    have e2 : movesP x = false := by
      cases x with
      | tup ms =>
        have e : (decide (0 ≤ ms.length) && decide (ms.length ≤ 24) && ms.all (tupN 3)) = false := e
        show (decide (ms.length ≤ 24) && (ms.all mvQ && _)) = false
        by_cases hl : ms.length ≤ 24
        · rw [decide_eq_true (Nat.zero_le _), decide_eq_true hl, Bool.true_and, Bool.true_and] at e
          obtain ⟨m, hm, hn⟩ := List.all_eq_false.mp e
          have : ms.all mvQ = false := List.all_eq_false.mpr ⟨m, hm, fun z => hn (mvQ_3 z)⟩
          rw [this, Bool.false_and, Bool.and_false]
        · rw [decide_eq_false hl, Bool.false_and]
      | _ => rfl
    have q : Q (.bl (movesP x)) S := q
    rw [e2] at q
    exact Out.id q
  have e : rowP 0 24 3 x = true := by simpa using e
  cases x with
  | tup ms =>
    obtain ⟨hl, hs⟩ := smP_tup h
    have e : (decide (0 ≤ ms.length) && decide (ms.length ≤ 24) && ms.all (tupN 3)) = true := e
    rw [Bool.and_eq_true, Bool.and_eq_true] at e
    have h24 := of_decide_eq_true e.1.2
    have q2 : Q (.bl (decide (ms.length ≤ 24) && (ms.all mvQ && nonfall (ms.map dayI)))) S := q
    rw [decide_eq_true h24, Bool.true_and] at q2
    obtain ⟨ts, et⟩ := tup3_of e.2
    clear q
    subst et
    rw [List.all_map] at q2
    have lt : ts.length ≤ sizeLine := by rw [List.length_map] at hl; exact Nat.le_trans hl (by decide)
    have sm3 : ∀ t ∈ ts, smP t.1 = true ∧ smP t.2.1 = true ∧ smP t.2.2 = true := by
      intro t ht
      have := smPs_mem hs (tup3 t) (List.mem_map.mpr ⟨t, ht, rfl⟩)
      have := (smP_tup this).2
      simpa [smPs] using this
    refine lc_map ts tup3 (fun t => .bl (dayP t.1 && (codesP 4 t.2.1 && wordP t.2.2))) rfl lt (fun _ _ => trivial) (fun t ht S2 _ => ⟨_, rfl, fun k hk => ?_⟩) ?_
    · obtain ⟨s1, s2, s3⟩ := sm3 t ht
      refine ⟨t.1, rfl, s1, cnd_i (b := dayP t.1) (fun e => ?_) (fun e => ?_)⟩
      · rw [e, Bool.true_and] at hk
        refine ⟨(t.2.1, 4), rfl, s2, cnd_i (b := codesP 4 t.2.1) (fun e => ?_) (fun e => ?_)⟩
        · rw [e, Bool.true_and] at hk
          exact ⟨t.2.2, rfl, s3, hk⟩
        · rw [e, Bool.false_and] at hk
          exact hk
      · rw [e, Bool.false_and] at hk
        exact hk
    conv => whnf
    rw [bl_list]
    refine cnd_i (b := !(ts.map fun t => dayP t.1 && (codesP 4 t.2.1 && wordP t.2.2)).all id) (fun e => ?_) (fun e => ?_)
    · rw [List.all_map] at e
      have e : (ts.all fun t => dayP t.1 && (codesP 4 t.2.1 && wordP t.2.2)) = false := by simpa using e
      obtain ⟨t, ht, hn⟩ := List.all_eq_false.mp e
      have : ts.all (mvQ ∘ tup3) = false := List.all_eq_false.mpr ⟨t, ht, fun z => hn (by
        have z : (dayP t.1 && ((codesP 4 t.2.1 && neT t.2.1) && wordP t.2.2)) = true := z
        simp only [Bool.and_eq_true] at z ⊢
        exact ⟨z.1, z.2.1.1, z.2.2⟩)⟩
      rw [this, Bool.false_and] at q2
      exact Out.id q2
    rw [List.all_map] at e
    have e : (ts.all fun t => dayP t.1 && (codesP 4 t.2.1 && wordP t.2.2)) = true := by simpa using e
    have e1 := List.all_eq_true.mp e
    refine lc_map ts tup3 (fun t => .bl (!neT t.2.1)) rfl lt (fun _ _ => trivial) (fun t ht S2 _ => ⟨_, rfl, fun k hk => ?_⟩) ?_
    · obtain ⟨s1, s2, s3⟩ := sm3 t ht
      have := e1 t ht
      simp only [Bool.and_eq_true] at this
      obtain ⟨ss, es, _⟩ := codes_strs this.2.1
      rw [es] at s2
      have hk : k (.bl (!neT t.2.1)) S2 := hk
      have en : (!neT t.2.1) = PyData.eqv (toD (.tup (ss.map .str))) (.tuple []) := by
        rw [es]
        show _ = PyData.eqv (.tuple (toDs (ss.map .str))) (.tuple [])
        rw [eqv_nilT]
        cases ss <;> rfl
      rw [en] at hk
      refine ⟨lz rfl, ?_⟩
      show oEq t.2.1 (.tup []) S2 k
      rw [es]
      exact ⟨⟨okD_strs s2, rfl⟩, hk⟩
    conv => whnf
    rw [bl_list]
    refine cnd_i (b := (ts.map fun t => !neT t.2.1).any id) (fun e3 => ?_) (fun e3 => ?_)
    · rw [List.any_map] at e3
      obtain ⟨t, ht, hn⟩ := List.any_eq_true.mp e3
      have hn : neT t.2.1 = false := by simpa using hn
      have : ts.all (mvQ ∘ tup3) = false := List.all_eq_false.mpr ⟨t, ht, fun z => by
        have z : (dayP t.1 && ((codesP 4 t.2.1 && neT t.2.1) && wordP t.2.2)) = true := z
        rw [hn] at z
        simp at z⟩
      rw [this, Bool.false_and] at q2
      exact Out.id q2
    rw [List.any_map] at e3
    have e3 := List.any_eq_false.mp e3
    have hall : ts.all (mvQ ∘ tup3) = true := List.all_eq_true.mpr fun t ht => by
      show (dayP t.1 && ((codesP 4 t.2.1 && neT t.2.1) && wordP t.2.2)) = true
      have h1 := e1 t ht
      have h2 := e3 t ht
      simp only [Bool.and_eq_true] at h1 ⊢
      exact ⟨h1.1, ⟨h1.2.1, by simpa using h2⟩, h1.2.2⟩
    rw [hall, Bool.true_and] at q2
    refine lc_map ts tup3 (fun t => .int (dayI (tup3 t))) rfl lt (fun _ _ => trivial) (fun t ht S2 _ => ⟨_, rfl, fun k hk => ?_⟩) ?_
    · have h1 := e1 t ht
      simp only [Bool.and_eq_true] at h1
      obtain ⟨a, b, c⟩ := t
      cases a with
      | int i => exact hk
      | _ => cases h1.1
    try simp only [st0, wipeP, List.set_cons_zero, List.set_cons_succ, List.map_cons, List.map_nil, List.cons_append, List.nil_append, List.replicate_succ, List.replicate_zero, List.length_cons, List.length_nil, Nat.reduceSub, Nat.reduceAdd]
    have el : ts.map (fun t => Pv.int (dayI (tup3 t))) = ((ts.map tup3).map dayI).map Pv.int := by rw [List.map_map, List.map_map]; rfl
    rw [el]
    have hil : ((ts.map tup3).map dayI).length ≤ sizeLine := by rw [List.length_map, List.length_map]; exact lt
    generalize (ts.map tup3).map dayI = is at q2 hil ⊢
    conv => whnf
    rw [cut_tail, ← List.map_tail, zipP_zip, List.zip_map, List.map_map]
    refine lc_map (is.zip is.tail) ((fun p : Pv × Pv => .tup [p.1, p.2]) ∘ Prod.map Pv.int Pv.int) (fun p => .bl (decide (p.1 ≤ p.2))) rfl (by rw [List.length_zip]; exact Nat.le_trans (Nat.min_le_left _ _) hil) (fun _ _ => ⟨trivial, trivial⟩) (fun p hp S2 _ => ⟨_, rfl, fun k hk2 => hk2⟩) ?_
    exact all_j (f := fun p : Int × Int => decide (p.1 ≤ p.2)) (xs := is.zip is.tail) (Out.id q2)
  | _ => cases e

def sp_need_moves : PSp := SpF (fun (x : Pv) => [x]) (fun x => smP x = true ∧ movesP x = true) fun _ => .non
def b_need_moves : PFS :=
  gIf (fNot (fBV (fCall sp_are_moves [] noE (fCons (fVar 0) (fNil))))) (gNever) (gNext)
theorem len_need_moves : ∀ (xs : List Pv) (S : Sto) (Q : QV) (E : QE), sp_need_moves xs S Q E → xs.length = 1 := SpF.len fun _ => rfl
theorem mono_need_moves : ∀ (xs : List Pv) (S : Sto) (Q Q' : QV) (E E' : QE), (∀ p S', Q p S' → Q' p S') → (∀ C S', E C S' → E' C S') → sp_need_moves xs S Q E → sp_need_moves xs S Q' E' := SpF.mono
theorem ex_need_moves {xs : List Pv} {S0 : Sto} {Q : QV} {Ep : QE} : sp_need_moves xs S0 Q Ep → b_need_moves (endD Q) (st0 1 xs) S0 := SpF.ex fun x S Q ⟨h, hz⟩ k => ⟨x, rfl, h, cnd_f (b := !movesP x) (by rw [hz]; rfl) (Out.id k)⟩

theorem int_fg {x : Nat} (h : x < 4) : PySem.intText? (⟨#[x + 48]⟩ : Str) = some (x : Int) := by
  rcases lt4 h with rfl | rfl | rfl | rfl <;> decide +kernel
def sp_block_of : PSp := SpF (fun (ds : List Nat) => [.str (cdS ds)]) (fun ds => (∀ d ∈ ds, d < 4) ∧ ds.length ≤ 4) fun ds => .tup [.int (bkX ds : Nat), .int (bkY ds : Nat), .int (bkM ds : Nat)]
def b_block_of : PFS :=
  gSeq (gPar3 1 2 3 (fCons (fC (.int 0)) (fCons (fC (.int 0)) (fCons (fC v_CELLS) (fNil)))))
    (gSeq (gBeg [4] (gFor (fIt (fVar 0)) (.nm 4) (gEnd [4] (gSeq (gSet 3 (f2 oDiv (fVar 3) (fC (.int 2))))
    (gPar 1 2 (fCons (f2 oAdd (fVar 1) (f2 oMul (f2 oMod (fN oIntS (fCons (fVar 4) (fNil))) (fC (.int 2))) (fVar 3))) (fCons (f2 oAdd (fVar 2) (f2 oMul (f2 oDiv (fN oIntS (fCons (fVar 4) (fNil))) (fC (.int 2))) (fVar 3))) (fNil))))))))
    (gRet (fN oTup (fCons (fVar 1) (fCons (fVar 2) (fCons (fVar 3) (fNil)))))))
theorem len_block_of : ∀ (xs : List Pv) (S : Sto) (Q : QV) (E : QE), sp_block_of xs S Q E → xs.length = 1 := SpF.len fun _ => rfl
theorem mono_block_of : ∀ (xs : List Pv) (S : Sto) (Q Q' : QV) (E E' : QE), (∀ p S', Q p S' → Q' p S') → (∀ C S', E C S' → E' C S') → sp_block_of xs S Q E → sp_block_of xs S Q' E' := SpF.mono
theorem ex_block_of {xs : List Pv} {S0 : Sto} {Q : QV} {Ep : QE} : sp_block_of xs S0 Q Ep → b_block_of (endD Q) (st0 5 xs) S0 := SpF.ex fun ds S Q ⟨hd, hl⟩ k => by
  try simp only [st0, wipeP, List.set_cons_zero, List.set_cons_succ, List.map_cons, List.map_nil, List.cons_append, List.nil_append, List.replicate_succ, List.replicate_zero, List.length_cons, List.length_nil, Nat.reduceSub, Nat.reduceAdd]
  conv => whnf
  rw [cd_chars]
  try simp only [st0, wipeP, List.set_cons_zero, List.set_cons_succ, List.map_cons, List.map_nil, List.cons_append, List.nil_append, List.replicate_succ, List.replicate_zero, List.length_cons, List.length_nil, Nat.reduceSub, Nat.reduceAdd]
  refine forW_acc fg ds (fun pre ρ S' => S' = S ∧ ρ = [some (.str (cdS ds)), some (.int (bkX pre : Nat)), some (.int (bkY pre : Nat)), some (.int (bkM pre : Nat)), none]) ?_ ?_ [] ds _ _ rfl ⟨rfl, rfl⟩
  · rintro _ _ ⟨rfl, rfl⟩
    exact ⟨trivial, lz rfl, Out.id k⟩
  · rintro pre x post e kk hk _ _ ⟨rfl, rfl⟩
    have hx : x < 4 := hd x (by rw [← e]; simp)
    have hpl : pre.length < 4 := by
      have := congrArg List.length e
      simp only [List.length_append, List.length_cons] at this
      omega
    obtain ⟨e1, e2, e3⟩ := bk_snoc (ds := pre) (d := x) hpl
    have hm := bkM_le pre
    have f1 : ((bkM pre : Nat) : Int).fdiv 2 = ((bkM pre / 2 : Nat) : Int) := by
      rw [Int.fdiv_eq_ediv_of_nonneg _ (by decide)]; omega
    have f2 : ((x : Nat) : Int).fmod 2 = ((x % 2 : Nat) : Int) := by
      rw [Int.fmod_eq_emod_of_nonneg _ (by decide)]; omega
    have f3 : ((x : Nat) : Int).fdiv 2 = ((x / 2 : Nat) : Int) := by
      rw [Int.fdiv_eq_ediv_of_nonneg _ (by decide)]; omega
    have f4 : ((bkX pre : Nat) : Int) + ((x % 2 : Nat) : Int) * ((bkM pre / 2 : Nat) : Int) = ((bkX (pre ++ [x]) : Nat) : Int) := by rw [e2, ← Int.natCast_mul, ← Int.natCast_add]
    have f5 : ((bkY pre : Nat) : Int) + ((x / 2 : Nat) : Int) * ((bkM pre / 2 : Nat) : Int) = ((bkY (pre ++ [x]) : Nat) : Int) := by rw [e3, ← Int.natCast_mul, ← Int.natCast_add]
    refine ⟨trivial, ⟨by decide, by decide +kernel⟩, (x : Int), int_fg hx, (by decide : 1 ≤ 640), by decide, ?_⟩
    rw [f1, f2]
    refine ⟨mulOk (n := 2) (m := 5) (by unfold szI; omega) (by unfold szI; omega) (by decide), (x : Int), int_fg hx, (by decide : 1 ≤ 640), ⟨by decide, by decide +kernel⟩, ?_⟩
    rw [f3]
    refine ⟨mulOk (n := 2) (m := 5) (by unfold szI; omega) (by unfold szI; omega) (by decide), ?_⟩
    have z := hk _ _ ⟨rfl, rfl⟩
    rw [← f4, ← f5, e1] at z
    exact z

def sp_cells_of : PSp := SpF (fun (ds : List Nat) => [.str (cdS ds)]) (fun ds => (∀ d ∈ ds, d < 4) ∧ ds.length ≤ 4) fun ds => .lst (cellsL ds)
def b_cells_of : PFS :=
  gSeq (gTgt (.tp [.nm 1, .nm 2, .nm 3]) (fCall sp_block_of [] noE (fCons (fVar 0) (fNil))))
    (gRet (fLc2 (fRng2 (fCons (fVar 1) (fCons (f2 oAdd (fVar 1) (fVar 3)) (fNil)))) (.nm 4) (fYes) (fRng2 (fCons (fVar 2) (fCons (f2 oAdd (fVar 2) (fVar 3)) (fNil)))) (.nm 5) (fYes) (fN oTup (fCons (fVar 4) (fCons (fVar 5) (fNil)))) [4, 5] [5]))
theorem len_cells_of : ∀ (xs : List Pv) (S : Sto) (Q : QV) (E : QE), sp_cells_of xs S Q E → xs.length = 1 := SpF.len fun _ => rfl
theorem mono_cells_of : ∀ (xs : List Pv) (S : Sto) (Q Q' : QV) (E E' : QE), (∀ p S', Q p S' → Q' p S') → (∀ C S', E C S' → E' C S') → sp_cells_of xs S Q E → sp_cells_of xs S Q' E' := SpF.mono
theorem ex_cells_of {xs : List Pv} {S0 : Sto} {Q : QV} {Ep : QE} : sp_cells_of xs S0 Q Ep → b_cells_of (endD Q) (st0 6 xs) S0 := SpF.ex fun ds S Q ⟨hd, hl⟩ k => by
  have hm := bkM_le ds
  have hc := spN_lt ds.length ds rfl hd
  have hX : bkX ds < 16 ∧ bkY ds < 16 := by
    have e4 : 2 ^ ds.length * 2 ^ (4 - ds.length) = 16 := by rw [← Nat.pow_add, show ds.length + (4 - ds.length) = 4 by omega]
    have hp : 0 < 2 ^ (4 - ds.length) := Nat.pow_pos (by decide)
    constructor
    · show (spN ds).1 * 2 ^ (4 - ds.length) < 16
      rw [← e4]
      exact Nat.mul_lt_mul_of_pos_right hc.1 hp
    · show (spN ds).2 * 2 ^ (4 - ds.length) < 16
      rw [← e4]
      exact Nat.mul_lt_mul_of_pos_right hc.2 hp
  refine ⟨ds, rfl, ⟨hd, hl⟩, ?_⟩
  try simp only [st0, wipeP, List.set_cons_zero, List.set_cons_succ, List.map_cons, List.map_nil, List.cons_append, List.nil_append, List.replicate_succ, List.replicate_zero, List.length_cons, List.length_nil, Nat.reduceSub, Nat.reduceAdd]
  have er : ∀ x : Nat, rngP (x : Int) ((x : Int) + (bkM ds : Nat)) = (List.range (bkM ds)).map fun (i : Nat) => .int ((x : Int) + (i : Nat)) := fun x => by
    unfold rngP
    rw [show (((x : Int) + ((bkM ds : Nat) : Int)) - (x : Int)).toNat = bkM ds by omega]
  refine ⟨⟨⟨by omega, by omega⟩, ⟨by omega, by omega⟩⟩, ?_⟩
  refine lc2_map (List.range (bkM ds)) (List.range (bkM ds)) (fun (i : Nat) => .int ((bkX ds : Int) + (i : Nat))) (fun (j : Nat) => .int ((bkY ds : Int) + (j : Nat))) (fun i j => .tup [.int ((bkX ds : Int) + (i : Nat)), .int ((bkY ds : Int) + (j : Nat))]) (er _) ?_ (fun _ => trivial) (fun x hx S' hs => ⟨_, rfl, fun k hk => ?_, fun y hy S'' hs' => ⟨_, rfl, fun k hk => ⟨lz rfl, hk⟩⟩⟩) (Out.id k)
  · rw [List.length_range]
    exact Nat.le_trans (Nat.mul_le_mul hm hm) (by decide)
  · refine ⟨⟨⟨by omega, by omega⟩, ⟨by omega, by omega⟩⟩, ?_⟩
    rw [er]
    exact hk

def ownM (D : Addr) (ms : List Mv) (day : Int) : Mo := nkM D (celAll.map cellP) (celAll.map fun c => .str (celR ms day c))
def sp_owners_by : PSp := SpS (fun (a : List Mv × Int) => [.tup (a.1.map mvP), .int a.2]) (fun a _ => ∀ m ∈ a.1, CdOk m.2.1 ∧ m.2.1.length ≤ 1000) fun a S p S' => ∃ D, S D = none ∧ p = .ref D ∧ S' = put S D (ownM D a.1 a.2)
def b_owners_by : PFS :=
  gSeq (gSet 2 (fDcN (fIt (fCall sp_cells_of [] noE (fCons (fC (.str "")) (fNil)))) (.nm 6) (fYes) (fVar 6) (fC v_NOBODY) [6]))
    (gSeq (gBeg [3, 4, 5] (gFor (fIt (fVar 0)) (.tp [.nm 3, .nm 4, .nm 5]) (gEnd [3, 4, 5] (gIf (fBV (f2 oLe (fVar 3) (fVar 1))) (gDrop (fMethN oUpdN (fVar 2) (fCons (fDcN2 (fIt (fVar 4)) (.nm 7) (fYes) (fIt (fCall sp_cells_of [] noE (fCons (fVar 7) (fNil)))) (.nm 6) (fYes) (fVar 6) (fVar 5) [7, 6] [6]) (fNil)))) (gNext)))))
    (gRet (fVar 2)))
theorem len_owners_by : ∀ (xs : List Pv) (S : Sto) (Q : QV) (E : QE), sp_owners_by xs S Q E → xs.length = 2 := SpS.len fun _ => rfl
theorem mono_owners_by : ∀ (xs : List Pv) (S : Sto) (Q Q' : QV) (E E' : QE), (∀ p S', Q p S' → Q' p S') → (∀ C S', E C S' → E' C S') → sp_owners_by xs S Q E → sp_owners_by xs S Q' E' := SpS.mono
set_option maxHeartbeats 1000000 in
theorem ex_owners_by {xs : List Pv} {S0 : Sto} {Q : QV} {Ep : QE} : sp_owners_by xs S0 Q Ep → b_owners_by (endD Q) (st0 8 xs) S0 := SpS.ex fun ⟨ms, day⟩ S Q hm q => by
  have hm : ∀ m ∈ ms, CdOk m.2.1 ∧ m.2.1.length ≤ 1000 := hm
  have q : ∀ p S', (∃ D, S D = none ∧ p = .ref D ∧ S' = put S D (ownM D ms day)) → Q p S' := q
  refine ⟨[], rfl, ⟨(fun d hd => nomatch hd), Nat.zero_le _⟩, ?_⟩
  intro D hD
  rw [cellsL_eq]
  refine dcNW_pure cellP cellP (fun _ => v_NOBODY) hD (fun _ _ => trivial) celAll [] [] (by rw [all_len]; decide) (fun c hc => ⟨keyN_cell c, fun S' _ => ⟨_, rfl, fun k hk => hk, fun k hk => hk⟩⟩) ?_
  rw [show mgN [] [] (celAll.map cellP) (celAll.map fun _ => v_NOBODY) = _ from mg_new v_NOBODY celAll [], addLs_all]
  try simp only [st0, wipeP, List.set_cons_zero, List.set_cons_succ, List.map_cons, List.map_nil, List.cons_append, List.nil_append, List.replicate_succ, List.replicate_zero, List.length_cons, List.length_nil, Nat.reduceSub, Nat.reduceAdd]
  refine forW_acc mvP ms (fun pre ρ S' => ρ = [some (.tup (ms.map mvP)), some (.int day), some (.ref D), none, none, none, none, none] ∧ S' D = some (ownM D pre day) ∧ Has S S') ?_ ?_ [] ms _ _ rfl ⟨rfl, put_same, has_put hD⟩
  · rintro _ S2 ⟨rfl, hS, hk⟩
    refine ⟨trivial, Out.less (S' := put S D (ownM D ms day)) (fun z o hz => ?_) (q _ _ ⟨D, hD, rfl, rfl⟩)⟩
    by_cases c : z = D
    · rw [c, put_same] at hz
      rw [c, hS]; exact hz
    · rw [put_ne c] at hz
      exact hk z o hz
  rintro pre m post e kk hk _ S2 ⟨rfl, hS, hkp⟩
  have hmm := hm m (by rw [← e]; simp)
  refine ⟨trivial, ?_⟩
  try simp only [st0, wipeP, List.set_cons_zero, List.set_cons_succ, List.map_cons, List.map_nil, List.cons_append, List.nil_append, List.replicate_succ, List.replicate_zero, List.length_cons, List.length_nil, Nat.reduceSub, Nat.reduceAdd]
  refine cnd_i (b := decide (m.1 ≤ day)) (fun e1 => ?_) (fun e1 => ?_)
  · refine ⟨⟨D, _, _, rfl, .inl hS⟩, ?_⟩
    intro E hE
    have hDE : D ≠ E := fun z => by rw [← z, hS] at hE; cases hE
    have hu : ∀ c ∈ m.2.1, Up 4 c := fun c hc => ⟨(hmm.1 c hc).2, (hmm.1 c hc).1⟩
    refine dcN2_cells (fun c => .str (cdS c)) (.str m.2.2) hE (fun _ _ => trivial) m.2.1 [] hu (fun x hx => nomatch hx) List.nodup_nil (fun c hc S' _ => ⟨_, rfl, fun k2 hk2 => ?_, fun cell hcell S'' _ => ⟨_, rfl, fun k2 hk2 => hk2, fun k2 hk2 => hk2⟩⟩) ?_
    · refine ⟨c, rfl, hmm.1 c hc, ?_⟩
      have hk2 : k2 (cellsL c) tru S' := by rw [cellsL_eq]; exact hk2
      exact hk2
    have nd : (addLs [] (m.2.1.flatMap cellsC)).Nodup := addLs_nd List.nodup_nil
    have hin : ∀ x ∈ addLs [] (m.2.1.flatMap cellsC), x ∈ celAll := fun x hx => by
      rcases addLs_mem.mp hx with z | z
      · cases z
      · obtain ⟨c, hc, z⟩ := List.mem_flatMap.mp z
        exact cells_in (hu c hc).2 (hu c hc).1 x z
    have hmem : ∀ x, x ∈ addLs [] (m.2.1.flatMap cellsC) ↔ (m.2.1.any fun ds => decide (x ∈ cellsC ds)) = true := fun x => by
      rw [addLs_mem, List.any_eq_true, List.mem_flatMap]
      constructor
      · rintro (z | ⟨c, hc, z⟩)
        · cases z
        · exact ⟨c, hc, decide_eq_true z⟩
      · rintro ⟨c, hc, z⟩
        exact .inr ⟨c, hc, of_decide_eq_true z⟩
    generalize addLs [] (m.2.1.flatMap cellsC) = J at nd hin hmem ⊢
    have hJ := subA_len nd hin
    have hne : (celAll.map cellP) ≠ [] := fun z => by
      have := congrArg List.length z
      rw [List.length_map, all_len] at this
      cases this
    refine ⟨D, E, celAll.map cellP, celAll.map fun c => .str (celR pre day c), J.map cellP, J.map fun _ => .str m.2.2, rfl, rfl, by rw [put_ne hDE]; exact hS, .inl put_same, hDE, keysN_cells _, keysN_cells _, by rw [List.length_map, List.length_map], by rw [List.length_map, List.length_map], hne, ?_, ?_⟩
    · rw [List.length_map, List.length_map, all_len]
      exact Nat.le_trans (Nat.add_le_add_left hJ 256) (by decide)
    rw [show mgN (celAll.map cellP) (celAll.map fun c => .str (celR pre day c)) (J.map cellP) (J.map fun _ => .str m.2.2) = _ from mg_old celAll (.str m.2.2) J _ hin]
    have hval : (celAll.map fun x => if x ∈ J then Pv.str m.2.2 else .str (celR pre day x)) = celAll.map fun c => .str (celR (pre ++ [m]) day c) := List.map_congr_left fun x _ => by
      rw [celR_snoc]
      unfold celF
      rw [e1, Bool.true_and]
      by_cases z : x ∈ J
      · rw [if_pos z, if_pos ((hmem x).mp z)]
      · rw [if_neg z, if_neg fun w => z ((hmem x).mpr w)]
    rw [hval]
    refine hk _ _ ⟨rfl, put_same, fun b n hb => ?_⟩
    have hbD : b ≠ D := fun z => by rw [z, hD] at hb; cases hb
    have hbS := hkp b n hb
    have hbE : b ≠ E := fun z => by rw [z, hE] at hbS; cases hbS
    rw [put_ne hbD, put_ne hbE]
    exact hbS
  · refine hk _ _ ⟨rfl, ?_, hkp⟩
    rw [hS]
    have hval : (celAll.map fun c => Pv.str (celR (pre ++ [m]) day c)) = celAll.map fun c => .str (celR pre day c) := List.map_congr_left fun x _ => by
      rw [celR_snoc]
      unfold celF
      rw [e1, Bool.false_and]
      rfl
    unfold ownM
    rw [hval]

def sp_codes_of : Nat → PSp
  | 0 => fun _ _ _ _ => False
  | n + 1 => SpS (fun (a : Addr × List Cel × List Pv × Cd) => [.ref a.1, .str (cdS a.2.2.2)]) (fun a S => isN S a.1 (a.2.1.map cellP) a.2.2.1 ∧ a.2.1.length = a.2.2.1.length ∧ Up 4 a.2.2.2 ∧ 5 ≤ n + 1 + a.2.2.2.length ∧ n + 1 ≤ 9) fun a S p S' => p = .lst (cvs (cofC (n + 1) (fun c => decide (c ∈ a.2.1)) a.2.2.2)) ∧ S = S'
def b_codes_of (n : Nat) : PFS :=
  gSeq (gSet 2 (fLc (fIt (fCall sp_cells_of [] noE (fCons (fVar 1) (fNil)))) (.nm 3) (fYes) (f2 (oInN false) (fVar 3) (fVar 0)) [3]))
    (gSeq (gIf (fBV (fN oAll (fCons (fVar 2) (fNil)))) (gRet (fN oLst (fCons (fVar 1) (fNil)))) (gNext))
    (gSeq (gIf (fNot (fBV (fN oAny (fCons (fVar 2) (fNil))))) (gRet (fN oLst (fNil))) (gNext))
    (gRet (fLc2 (fIt (fC (.str "0123"))) (.nm 4) (fYes) (fIt (fCall (sp_codes_of n) [] noE (fCons (fVar 0) (fCons (f2 oAdd (fVar 1) (fVar 4)) (fNil))))) (.nm 5) (fYes) (fVar 5) [4, 5] [5]))))
theorem len_codes_of : ∀ (n : Nat) (xs : List Pv) (S : Sto) (Q : QV) (E : QE), sp_codes_of n xs S Q E → xs.length = 2
  | 0 => fun _ _ _ _ h => h.elim
  | _ + 1 => SpS.len fun _ => rfl
theorem mono_codes_of : ∀ (n : Nat) (xs : List Pv) (S : Sto) (Q Q' : QV) (E E' : QE), (∀ p S', Q p S' → Q' p S') → (∀ C S', E C S' → E' C S') → sp_codes_of n xs S Q E → sp_codes_of n xs S Q' E'
  | 0 => fun _ _ _ _ _ _ _ _ h => h
  | _ + 1 => SpS.mono
theorem ex_codes_of {n : Nat} {xs : List Pv} {S0 : Sto} {Q : QV} {Ep : QE} : sp_codes_of (n + 1) xs S0 Q Ep → b_codes_of n (endD Q) (st0 6 xs) S0 := fun h => SpS.ex (Ep := Ep) (args := fun (a : Addr × List Cel × List Pv × Cd) => [.ref a.1, .str (cdS a.2.2.2)]) (pre := fun a S => isN S a.1 (a.2.1.map cellP) a.2.2.1 ∧ a.2.1.length = a.2.2.1.length ∧ Up 4 a.2.2.2 ∧ 5 ≤ n + 1 + a.2.2.2.length ∧ n + 1 ≤ 9) (post := fun a S p S' => p = .lst (cvs (cofC (n + 1) (fun c => decide (c ∈ a.2.1)) a.2.2.2)) ∧ S = S') (b := b_codes_of n) (n := 6) (fun ⟨D, G, vs, ds⟩ S Q ⟨hS, hl, hu, hn, hn9⟩ q => by
  have hS : isN S D (G.map cellP) vs := hS
  have hl : G.length = vs.length := hl
  have hu : Up 4 ds := hu
  have hn : 5 ≤ n + 1 + ds.length := hn
  have hn9 : n + 1 ≤ 9 := hn9
  have q : Q (.lst (cvs (cofC (n + 1) (fun c => decide (c ∈ G)) ds))) S := q _ _ ⟨rfl, rfl⟩
  refine ⟨ds, rfl, ⟨hu.2, hu.1⟩, ?_⟩
  conv => whnf
  rw [cellsL_eq]
  refine lc_map (cellsC ds) cellP (fun c => .bl (decide (c ∈ G))) rfl (Nat.le_trans (cells_len ds) (by decide)) (fun _ _ => trivial) (fun c hc S' hS' => ⟨_, rfl, fun k hk => ?_⟩) ?_
  · refine ⟨D, _, _, rfl, hS.has hS', keysN_cells G, by rw [List.length_map]; exact hl, keyN_cell c, ?_⟩
    rw [hasN_cell]
    exact hk
  try simp only [st0, wipeP, List.set_cons_zero, List.set_cons_succ, List.map_cons, List.map_nil, List.cons_append, List.nil_append, List.replicate_succ, List.replicate_zero, List.length_cons, List.length_nil, Nat.reduceSub, Nat.reduceAdd]
  conv => whnf
  rw [bl_list]
  dsimp only
  refine cnd_i (b := ((cellsC ds).map fun c => decide (c ∈ G)).all id) (fun e1 => ?_) (fun e1 => ?_) <;> rw [List.all_map] at e1 <;> replace e1 : ((cellsC ds).all fun c => decide (c ∈ G)) = _ := e1
  · have e : cofC (n + 1) (fun c => decide (c ∈ G)) ds = [ds] := by unfold cofC; rw [if_pos e1]
    rw [e] at q
    exact ⟨lz rfl, Out.id q⟩
  conv => whnf
  rw [bl_list]
  dsimp only
  refine cnd_i (b := !((cellsC ds).map fun c => decide (c ∈ G)).any id) (fun e2 => ?_) (fun e2 => ?_) <;> rw [List.any_map] at e2 <;> replace e2 : (!(cellsC ds).any fun c => decide (c ∈ G)) = _ := e2
  · have e : cofC (n + 1) (fun c => decide (c ∈ G)) ds = [] := by unfold cofC; rw [if_neg (by rw [e1]; decide), if_pos (by simpa using e2)]
    rw [e] at q
    exact ⟨lz rfl, Out.id q⟩
  have e2 : ((cellsC ds).any fun c => decide (c ∈ G)) = true := by simpa using e2
  have e : cofC (n + 1) (fun c => decide (c ∈ G)) ds = kidsC.flatMap fun s => cofC n (fun c => decide (c ∈ G)) (ds ++ [s]) := by
    conv => lhs; unfold cofC
    rw [if_neg (by rw [e1]; decide), if_neg (by rw [e2]; decide)]
  rw [e] at q
  have h4 : ds.length < 4 := by
    apply Decidable.byContradiction
    intro hge
    have hl4 : ds.length = 4 := by have := hu.1; omega
    have hone : cellsC ds = [(bkX ds, bkY ds)] := by
      unfold cellsC
      rw [show bkM ds = 1 by unfold bkM; rw [hl4]]
      rfl
    rw [hone] at e1 e2
    simp only [List.all_cons, List.all_nil, Bool.and_true, List.any_cons, List.any_nil, Bool.or_false] at e1 e2
    rw [e1] at e2; cases e2
  obtain ⟨n, rfl⟩ : ∃ m, n = m + 1 := ⟨n - 1, by omega⟩
  simp only [gNext, gRet, fLc2, fIt, fC, it_figS]
  intro E hE
  refine lc2_depC (4 ^ n) (fun s => cofC (n + 1) (fun c => decide (c ∈ G)) (ds ++ [s])) fg cdK (fun _ x => cdK x) hE (fun _ => trivial) kidsC [] (by
    have : 4 ^ n ≤ 4 ^ 8 := Nat.pow_le_pow_right (by decide) (by omega)
    exact Nat.le_trans (show 0 + 4 * 4 ^ n ≤ 0 + 4 * 4 ^ 8 by omega) (by decide)) (fun s hs => ?_) ?_
  · have us := up_kid hu h4 (kid_lt hs)
    refine ⟨?_, fun S' hS' => ⟨_, rfl, fun k hk => ?_, fun y hy S'' _ => ⟨_, rfl, fun k hk => hk⟩⟩⟩
    · have := cof_len (n + 1) (fun c => decide (c ∈ G)) (ds ++ [s])
      rw [Nat.add_sub_cancel] at this
      exact this
    refine ⟨by rw [cd_len]; exact sz3 (by show ds.length + 1 ≤ _; omega), (D, G, vs, ds ++ [s]), ?_, ⟨hS.has hS', hl, us, (show 5 ≤ n + 1 + (ds ++ [s]).length by rw [List.length_append, List.length_singleton]; omega), (show n + 1 ≤ 9 by omega)⟩, ?_⟩
    · show [Pv.ref D, Pv.str (cdS ds ++ (⟨#[s + 48]⟩ : Str))] = _
      rw [cd_kid]
    rintro _ _ ⟨rfl, rfl⟩
    exact hk
  · show Out Q (.lst ([] ++ kidsC.flatMap fun x => (cofC (n + 1) (fun c => decide (c ∈ G)) (ds ++ [x])).map cdK)) S
    rw [List.nil_append, ← List.map_flatMap]
    exact Out.id q) h

def sp_changed : PSp := SpS (fun (a : List Mv × Int × Int) => [.tup (a.1.map mvP), .int a.2.1, .int a.2.2]) (fun a _ => (smP (.tup (a.1.map mvP)) = true ∧ movesP (.tup (a.1.map mvP)) = true) ∧ (∀ m ∈ a.1, CdOk m.2.1 ∧ m.2.1.length ≤ 1000) ∧ 0 ≤ a.2.1 ∧ 0 ≤ a.2.2) fun a S p S' => ∃ ps b, PrsI a.1 a.2.1 a.2.2 celAll ps ∧ S b = none ∧ p = .ref b ∧ S' = put S b (.lst (sortP ((chgL a.1 a.2.1 a.2.2 ps).map trP)))
def b_changed (w : World) : PFS :=
  gSeq (gDrop (fCall sp_need_moves [] noE (fCons (fVar 0) (fNil))))
    (gSeq (gDrop (fCall sp_need_day [.int 0] noE (fCons (fVar 1) (fNil))))
    (gSeq (gDrop (fCall sp_need_day [.int 0] noE (fCons (fVar 2) (fNil))))
    (gSeq (gPar3 3 4 5 (fCons (fCall sp_owners_by [] noE (fCons (fVar 0) (fCons (fVar 1) (fNil)))) (fCons (fCall sp_owners_by [] noE (fCons (fVar 0) (fCons (fVar 2) (fNil)))) (fCons (fDictW w) (fNil)))))
    (gSeq (gBeg [6, 7] (gFor (fItemsN (fVar 3)) (.tp [.nm 6, .nm 7]) (gEnd [6, 7] (gIf (fBV (f2 oNe (f2 oNGet (fVar 4) (fVar 6)) (fVar 7))) (gPutN (fC (.bl true)) (fSetdW w (fVar 5) (fN oTup (fCons (fVar 7) (fCons (f2 oNGet (fVar 4) (fVar 6)) (fNil)))) (fDictN)) (fVar 6)) (gNext)))))
    (gRet (fN oSortedT (fCons (fLc2 (fItemsW w (fVar 5)) (.tp [.nm 8, .nm 9]) (fYes) (fIt (fCall (sp_codes_of 6) [.str ""] noE (fCons (fVar 9) (fNil)))) (.nm 10) (fYes) (f2 oAdd (fN oTup (fCons (fVar 10) (fNil))) (fVar 8)) [8, 9, 10] [10]) (fNil))))))))
theorem len_changed : ∀ (xs : List Pv) (S : Sto) (Q : QV) (E : QE), sp_changed xs S Q E → xs.length = 3 := SpS.len fun _ => rfl
theorem mono_changed : ∀ (xs : List Pv) (S : Sto) (Q Q' : QV) (E E' : QE), (∀ p S', Q p S' → Q' p S') → (∀ C S', E C S' → E' C S') → sp_changed xs S Q E → sp_changed xs S Q' E' := SpS.mono
set_option maxHeartbeats 2000000 in
theorem ex_changed {w : World} {xs : List Pv} {S0 : Sto} {Q : QV} {Ep : QE} : sp_changed xs S0 Q Ep → b_changed w (endD Q) (st0 11 xs) S0 := SpS.ex fun ⟨ms, d1, d2⟩ S Q ⟨hp, hm, h1, h2⟩ q => by
  have hm : ∀ m ∈ ms, CdOk m.2.1 ∧ m.2.1.length ≤ 1000 := hm
  have q : ∀ p S', (∃ ps b, PrsI ms d1 d2 celAll ps ∧ S b = none ∧ p = .ref b ∧ S' = put S b (.lst (sortP ((chgL ms d1 d2 ps).map trP)))) → Q p S' := q
  refine ⟨.tup (ms.map mvP), rfl, hp, (d1, 0), rfl, ⟨h1, h1⟩, (d2, 0), rfl, ⟨h2, h2⟩, ?_⟩
  refine ⟨(ms, d1), rfl, hm, ?_⟩
  rintro _ S1 ⟨A, hA, rfl, rfl⟩
  refine ⟨(ms, d2), rfl, hm, ?_⟩
  rintro _ S2 ⟨B, hB, rfl, rfl⟩
  intro t ht
  have hAB : A ≠ B := fun z => by rw [← z, put_same] at hB; cases hB
  have hAt : A ≠ t := fun z => by rw [← z, put_ne hAB, put_same] at ht; cases ht
  have hBt : B ≠ t := fun z => by rw [← z, put_same] at ht; cases ht
  have hSt : S t = none := by
    have h := ht
    rw [put_ne (Ne.symm hBt), put_ne (Ne.symm hAt)] at h
    exact h
  have hSB : S B = none := by
    have h := hB
    rw [put_ne (Ne.symm hAB)] at h
    exact h
  try simp only [st0, wipeP, List.set_cons_zero, List.set_cons_succ, List.map_cons, List.map_nil, List.cons_append, List.nil_append, List.replicate_succ, List.replicate_zero, List.length_cons, List.length_nil, Nat.reduceSub, Nat.reduceAdd]
  refine ⟨A, celAll.map cellP, celAll.map fun c => .str (celR ms d1 c), rfl, keysN_cells _, by rw [List.length_map, List.length_map], .inl ⟨(by rw [put_ne hAt, put_ne hAB]; exact put_same), fun o vs us => ?_⟩⟩
  rw [pairs_celC]
  have hF : ∀ f : Mo, put (put (put (put S A (ownM A ms d1)) B (ownM B ms d2)) t (nwM w t [] [])) A f = put (put (put S B (ownM B ms d2)) A f) t (nwM w t [] []) := fun f => by
    funext b
    simp only [put]
    by_cases z1 : b = A
    · rw [if_pos z1, if_neg (by rw [z1]; exact hAt), if_pos z1]
    · by_cases z2 : b = t
      · rw [if_neg z1, if_pos z2, if_pos z2]
      · rw [if_neg z1, if_neg z2, if_neg z2, if_neg z1]
        by_cases z3 : b = B
        · rw [if_pos z3, if_neg z1]
        · rw [if_neg z3, if_neg z1]
  rw [show (put (put (put (put S A (ownM A (ms, d1).1 (ms, d1).2)) B (ownM B (ms, d2).1 (ms, d2).2)) t (nwM w t [] [])) A (nkF o A vs us (celAll.map cellP) (celAll.map fun c => .str (celR ms d1 c)))) = _ from hF _]
  generalize hS3 : put (put S B (ownM B ms d2)) A (nkF o A vs us (celAll.map cellP) (celAll.map fun c => .str (celR ms d1 c))) = S3
  have h3A : S3 A = some (nkF o A vs us (celAll.map cellP) (celAll.map fun c => .str (celR ms d1 c))) := by rw [← hS3, put_same]
  have h3B : S3 B = some (nkM B (celAll.map cellP) (celAll.map fun c => .str (celR ms d2 c))) := by rw [← hS3, put_ne (Ne.symm hAB)]; exact put_same
  have h3t : S3 t = none := by rw [← hS3, put_ne (Ne.symm hAt), put_ne (Ne.symm hBt)]; exact hSt
  have h3S : Sub S S3 := fun z m hz => by
    rw [← hS3, put_ne (fun e => by rw [e, hA] at hz; cases hz), put_ne (fun e => by rw [e, hSB] at hz; cases hz)]
    exact hz
  clear hS3 hF
  refine forW_acc (fun c => .tup [cellP c, .str (celR ms d1 c)]) celAll (fun pre ρ S' => ρ = [some (.tup (ms.map mvP)), some (.int d1), some (.int d2), some (.ref A), some (.ref B), some (.ref t), none, none, none, none, none] ∧ ∃ tl, Tn w ms d1 d2 S3 t pre tl S') ?_ ?_ [] celAll _ _ rfl ⟨rfl, [], Tn.start put_same (has_put h3t)⟩
  · rintro _ S' ⟨rfl, tl, h⟩
    refine ⟨h.has _ _ h3A, ?_⟩
    have htl : tl.length ≤ 256 := by
      have := h.prs.len
      rwa [List.length_map] at this
    refine ⟨t, _, _, rfl, (fun z hz => ?_), by rw [List.length_map, List.length_map], .inl ⟨h.here, fun o2 vs2 us2 => ?_⟩⟩
    · obtain ⟨x, _, rfl⟩ := List.mem_map.mp hz
      exact kOk_pr _
    rw [pairs_tl]
    intro E hE
    have hEt : E ≠ t := fun z => by rw [z, put_same] at hE; cases hE
    refine lc2_depG (4 ^ 5) (fun (e : Pr × Addr) => cofC 6 (fun c => decide (c ∈ clsC ms d1 d2 celAll e.1)) []) (fun e => .tup [prP e.1, .ref e.2]) cdK (fun e d => trP (d, e.1)) hE (fun S'' hS => hS _ _ put_same) tl [] (by rw [List.length_nil, Nat.zero_add]; exact Nat.le_trans (Nat.mul_le_mul_right _ htl) (by decide)) (fun e he => ⟨cof_len 6 _ _, fun S'' hS => ⟨_, rfl, fun k hk => ?_, fun d hd S5 hS5 => ⟨_, rfl, fun k hk => ?_⟩⟩⟩) ?_
    · refine ⟨(e.2, clsC ms d1 d2 celAll e.1, (clsC ms d1 d2 celAll e.1).map fun _ => .bl true, []), rfl, ⟨.inl (hS _ _ (by rw [put_ne (h.ne e he).1]; exact h.val e he)), by rw [List.length_map], ⟨Nat.zero_le _, fun x hx => nomatch hx⟩, (by decide : 5 ≤ 5 + 1 + 0), (by decide : 5 + 1 ≤ 9)⟩, ?_⟩
      rintro _ _ ⟨rfl, rfl⟩
      exact hk
    · try simp only [st0, wipeP, List.set_cons_zero, List.set_cons_succ, List.map_cons, List.map_nil, List.cons_append, List.nil_append, List.replicate_succ, List.replicate_zero, List.length_cons, List.length_nil, Nat.reduceSub, Nat.reduceAdd]
      refine ⟨lz rfl, ?_⟩
      exact ⟨(by decide : 1 + 2 ≤ sizeLine), hk⟩
    rw [List.nil_append]
    have ef : (tl.flatMap fun e => (cofC 6 (fun c => decide (c ∈ clsC ms d1 d2 celAll e.1)) []).map fun d => trP (d, e.1)) = (chgL ms d1 d2 (tl.map (·.1))).map trP := by
      unfold chgL
      rw [List.map_flatMap, List.flatMap_map]
      congr 1
      funext e
      rw [List.map_map]
      rfl
    rw [ef]
    refine ⟨tr_sortOk _, fun b hb => ?_⟩
    have hbt : b ≠ t := fun e => by rw [e, put_same] at hb; cases hb
    have hb2 : S' b = none := by
      rw [put_ne hbt] at hb
      exact hb
    have hSb : S b = none := by
      cases q : S b with
      | none => rfl
      | some m => rw [h.has _ _ (h3S _ _ q)] at hb2; cases hb2
    refine Out.less (fun z m hz => ?_) (q _ _ ⟨_, b, h.prs, hSb, rfl, rfl⟩)
    by_cases hzb : z = b
    · rw [hzb, put_same] at hz ⊢
      exact hz
    · rw [put_ne hzb] at hz ⊢
      have hzt : z ≠ t := fun e => by rw [e, hSt] at hz; cases hz
      rw [put_ne hzt]
      exact h.has _ _ (h3S _ _ hz)
  rintro pre c post e kk hk _ S' ⟨rfl, tl, h⟩
  refine ⟨h.has _ _ h3A, ?_⟩
  have hc : c ∈ celAll := by rw [← e]; simp
  have hget : getN (celAll.map cellP) (celAll.map fun c => .str (celR ms d2 c)) (cellP c) = some (.str (celR ms d2 c)) := getN_cel _ hc
  have hB' : isN S' B (celAll.map cellP) (celAll.map fun c => .str (celR ms d2 c)) := .inl (h.has _ _ h3B)
  try simp only [st0, wipeP, List.set_cons_zero, List.set_cons_succ, List.map_cons, List.map_nil, List.cons_append, List.nil_append, List.replicate_succ, List.replicate_zero, List.length_cons, List.length_nil, Nat.reduceSub, Nat.reduceAdd]
  refine ⟨B, _, _, _, rfl, hB', keysN_cells _, by rw [List.length_map, List.length_map], keyN_cell c, hget, ?_⟩
  dsimp only
  try simp only [st0, wipeP, List.set_cons_zero, List.set_cons_succ, List.map_cons, List.map_nil, List.cons_append, List.nil_append, List.replicate_succ, List.replicate_zero, List.length_cons, List.length_nil, Nat.reduceSub, Nat.reduceAdd]
  refine cnd_i (b := !eqS (.str (celR ms d2 c)) (.str (celR ms d1 c))) (fun e1 => ?_) (fun e1 => ?_) <;> rw [dif_eq] at e1
  · have htl : tl.length ≤ 256 := by
      have hl := nodup_leC (D := pre.map (prC ms d1 d2)) h.prs.nd fun p hp => by
        obtain ⟨x, hx, _, e2⟩ := (h.prs.mem p).mp hp
        exact List.mem_map.mpr ⟨x, hx, e2⟩
      have hp : pre.length ≤ 256 := by
        have := congrArg List.length e
        rw [List.length_append, all_len] at this
        omega
      rw [List.length_map, List.length_map] at hl
      omega
    refine ⟨⟨t, _, _, rfl, h.here⟩, B, _, _, _, rfl, hB', keysN_cells _, by rw [List.length_map, List.length_map], keyN_cell c, hget, ?_⟩
    refine ⟨lz rfl, ?_⟩
    intro a ha
    have hat : a ≠ t := fun z => by rw [z, h.here] at ha; cases ha
    have hta : put S' a (nkM a [] []) t = some (nwM w t (tl.map fun e => prP e.1) (tl.map fun e => .ref e.2)) := by
      rw [put_ne (Ne.symm hat)]
      exact h.here
    refine ⟨t, _, _, rfl, hta, (fun z hz => ?_), by rw [List.length_map, List.length_map], kOk_pr (prC ms d1 d2 c), by rw [List.length_map]; exact Nat.lt_of_le_of_lt htl (by decide), fun v hv => ?_, fun hn => ?_⟩
    · obtain ⟨x, _, rfl⟩ := List.mem_map.mp hz
      exact kOk_pr _
    · have hv : getN (tl.map fun e => prP e.1) (tl.map fun e => .ref e.2) (prP (prC ms d1 d2 c)) = some v := hv
      rw [getN_pr] at hv
      obtain ⟨x, hx, rfl⟩ := Option.map_eq_some_iff.mp hv
      have hxt := List.mem_of_find?_eq_some hx
      have hx1 := List.find?_some hx
      rw [decide_eq_true_eq] at hx1
      obtain ⟨xp, d⟩ := x
      obtain rfl : xp = prC ms d1 d2 c := hx1
      have hd := h.val _ hxt
      have had : a ≠ d := fun z => by rw [z, hd] at ha; cases ha
      refine ⟨d, _, _, rfl, (put_ne (Ne.symm had)).trans hd, keysN_cells _, by rw [List.length_map, List.length_map], keyN_cell c, ?_, ?_⟩
      · rw [List.length_map]
        exact Nat.lt_of_le_of_lt (cls_len e) (by decide)
      rw [put_new1 (cls_not e)]
      exact hk _ _ ⟨rfl, tl, h.more e1 hxt fun b hb => put_ne fun z => hb (by rw [z]; exact ha)⟩
    · have hn : getN (tl.map fun e => prP e.1) (tl.map fun e => .ref e.2) (prP (prC ms d1 d2 c)) = none := hn
      rw [getN_pr] at hn
      have hn2 := List.find?_eq_none.mp (Option.map_eq_none_iff.mp hn)
      refine ⟨a, [], [], rfl, (put_ne hat).trans put_same, (fun z hz => nomatch hz), rfl, keyN_cell c, by decide, ?_⟩
      refine hk _ _ ⟨rfl, _, h.fresh h3t e1 (fun x hx z => hn2 x hx (by simpa using z)) ha (fun b hb1 hb2 => ?_) ?_ ?_⟩
      · rw [put_ne hb2, put_ne hb1, put_ne hb2]
      · rw [put_ne (Ne.symm hat)]
        exact put_same
      · exact put_same
  · exact hk _ _ ⟨rfl, tl, h.skip e1⟩

def sp__law_cell : PSp := SpF (fun (a : List Int × Nat) => [.scr (a.1.map .int), .int a.2]) (fun _ => True) fun a => .int (a.1.getD a.2 0)
def b__law_cell : PFS :=
  gSeq (gIf (fBV (f2 oLt (fVar 1) (fN oLen (fCons (fVar 0) (fNil))))) (gRet (f2 oIx (fVar 0) (fVar 1))) (gNext))
    (gRet (fC (.int 0)))
theorem len__law_cell : ∀ (xs : List Pv) (S : Sto) (Q : QV) (E : QE), sp__law_cell xs S Q E → xs.length = 2 := SpF.len fun _ => rfl
theorem mono__law_cell : ∀ (xs : List Pv) (S : Sto) (Q Q' : QV) (E E' : QE), (∀ p S', Q p S' → Q' p S') → (∀ C S', E C S' → E' C S') → sp__law_cell xs S Q E → sp__law_cell xs S Q' E' := SpF.mono
theorem ex__law_cell {xs : List Pv} {S0 : Sto} {Q : QV} {Ep : QE} : sp__law_cell xs S0 Q Ep → b__law_cell (endD Q) (st0 2 xs) S0 := SpF.ex fun ⟨ns, k⟩ S Q _ q => by
  have q : Q (.int (ns.getD k 0)) S := q
  refine cnd_i (b := decide ((k : Int) < ((ns.map Pv.int).length : Nat))) (fun e => ?_) fun e => ?_
  · have e : k < ns.length := by
      have e' : (k : Int) < ((ns.map Pv.int).length : Nat) := by simpa using e
      rw [List.length_map] at e'
      omega
    have ha : atI (ns.map Pv.int) (k : Int) = some (.int (ns.getD k 0)) := atI_nat (by
      rw [List.getElem?_map, List.getElem?_eq_getElem e, List.getD_eq_getElem?_getD, List.getElem?_eq_getElem e]; rfl)
    show match atI (ns.map Pv.int) (k : Int) with | some p => Out Q p S | none => False
    rw [ha]
    exact Out.id q
  · have e : ¬ k < ns.length := by
      have e' : ¬ (k : Int) < ((ns.map Pv.int).length : Nat) := by simpa using e
      rw [List.length_map] at e'
      omega
    rw [List.getD_eq_getElem?_getD, List.getElem?_eq_none (by omega)] at q
    exact Out.id q

def sp__law_pen : PSp := SpS (fun (c : Int) => [.int c]) (fun _ _ => True) fun _ S p S' => ∃ l m, S l = none ∧ Pn2 m ∧ p = .ref l ∧ S' = put S l m
def b__law_pen : PFS :=
  gSeq (gSet 1 (fN oMax (fCons (fVar 0) (fCons (f2 oSub (fC (.int 0)) (fVar 0)) (fNil)))))
    (gRet (fN oLstT (fCons (fVar 1) (fCons (fN oInt (fCons (f2 oGe (fVar 1) (f2 oPow (fC (.int 10)) (fC (.int 18)))) (fNil))) (fNil)))))
theorem len__law_pen : ∀ (xs : List Pv) (S : Sto) (Q : QV) (E : QE), sp__law_pen xs S Q E → xs.length = 1 := SpS.len fun _ => rfl
theorem mono__law_pen : ∀ (xs : List Pv) (S : Sto) (Q Q' : QV) (E E' : QE), (∀ p S', Q p S' → Q' p S') → (∀ C S', E C S' → E' C S') → sp__law_pen xs S Q E → sp__law_pen xs S Q' E' := SpS.mono
theorem ex__law_pen {xs : List Pv} {S0 : Sto} {Q : QV} {Ep : QE} : sp__law_pen xs S0 Q Ep → b__law_pen (endD Q) (st0 2 xs) S0 := SpS.ex fun c S Q _ q => by
  refine ⟨⟨by decide, by decide, by decide⟩, lz rfl, fun l hl => Out.id (q _ _ ⟨l, _, hl, ⟨_, _, rfl, ?_⟩, rfl, rfl⟩)⟩
  show 0 ≤ (if 0 - c > c then 0 - c else c)
  split <;> omega

def sp__law_draw : PSp := SpS (fun (a : Addr × Int) => [.ref a.1, .int a.2]) (fun a S => (∃ m, S a.1 = some m ∧ Pn2 m) ∧ 0 < a.2 ∧ a.2 < 2 ^ 64) fun a S p S' => ∃ r m, 0 ≤ r ∧ r < a.2 ∧ Pn2 m ∧ p = .int r ∧ S' = put S a.1 m
def b__law_draw : PFS :=
  gSeq (gIf (fBV (f2 oEq (f2 oIx (fVar 0) (fC (.int 1))) (fC (.int 1)))) (gSeq (gTgt (.tp [.nm 2, .nm 3]) (fN oDivmod (fCons (f2 oIx (fVar 0) (fC (.int 0))) (fCons (fVar 1) (fNil)))))
    (gSeq (gSetIx (fVar 2) (fVar 0) (fC (.int 0)))
    (gRet (fVar 3)))) (gNext))
    (gSeq (gSet 4 (f2 oMod (f2 oMul (f2 oAdd (f2 oMod (f2 oIx (fVar 0) (fC (.int 0))) (fC (.int 2147483647))) (fC (.int 40503))) (fC (.int 69621))) (fC (.int 2147483629))))
    (gSeq (gSet 4 (f2 oMod (f2 oAdd (f2 oMul (fVar 4) (fVar 4)) (fC (.int 7817))) (fC (.int 2147483587))))
    (gSeq (gSetIx (f2 oMod (f2 oAdd (f2 oMul (fVar 4) (fC (.int 48271))) (fC (.int 11))) (fC (.int 2147483629))) (fVar 0) (fC (.int 0)))
    (gRet (f2 oMod (f2 oDiv (f2 oIx (fVar 0) (fC (.int 0))) (fC (.int 32))) (fVar 1))))))
theorem len__law_draw : ∀ (xs : List Pv) (S : Sto) (Q : QV) (E : QE), sp__law_draw xs S Q E → xs.length = 2 := SpS.len fun _ => rfl
theorem mono__law_draw : ∀ (xs : List Pv) (S : Sto) (Q Q' : QV) (E E' : QE), (∀ p S', Q p S' → Q' p S') → (∀ C S', E C S' → E' C S') → sp__law_draw xs S Q E → sp__law_draw xs S Q' E' := SpS.mono
theorem ex__law_draw {xs : List Pv} {S0 : Sto} {Q : QV} {Ep : QE} : sp__law_draw xs S0 Q Ep → b__law_draw (endD Q) (st0 5 xs) S0 := SpS.ex fun ⟨l, n⟩ S Q ⟨⟨m, hS, d, f, hm, hd⟩, hn, hn2⟩ q => by
  subst hm
  have hS : S l = some (.lst [.int d, .int f]) := hS
  have hn : 0 < n := hn
  have hn2 : n < 2 ^ 64 := hn2
  have hl : n.natAbs.log2 < 9000 := log_lt (n := 64) (by unfold szI; omega) (by decide)
  have hn0 : n ≠ 0 := by omega
  simp only [b__law_draw, gSeq, gIf, gSet, gSetIx, gRet, gNext, gTgt, fBV, f2, fN, fCons, fNil, fVar, fC, oIx, oEq, scalP, eqS, oDivmod, rdL, oMod, oDiv, oAdd, oMul, oSetIx, st0, hS, put_same, put_put, at0, at1, List.length_cons, List.length_nil, List.map_cons, List.map_nil, List.cons_append, List.nil_append, List.getElem?_cons_zero, List.getElem?_cons_succ, List.set_cons_zero, List.set_cons_succ, List.replicate]
  refine cnd_i (b := decide (f = 1)) (fun e => ?_) fun e => ?_
  · refine ⟨⟨hn0, hl⟩, ?_⟩
    show oSetIx (.ref l) (.int 0) (.int (d.fdiv n)) S fun S4 => Out Q (.int (d.fmod n)) S4
    unfold oSetIx
    simp only [hS]
    exact Out.id (q _ _ ⟨_, _, (fmod_bd hn).1, (fmod_bd hn).2, ⟨_, _, rfl, fdiv_nn hd hn⟩, rfl, rfl⟩)
  · have h1 := fmod_bd (i := d) (j := 2147483647) (by decide)
    generalize d.fmod 2147483647 = v at h1 ⊢
    have h2 := fmod_bd (i := (v + 40503) * 69621) (j := 2147483629) (by decide)
    refine ⟨by decide, mulOk40 (by omega) (by omega) (by decide) (by decide), by decide, ?_⟩
    generalize ((v + 40503) * 69621).fmod 2147483629 = x at h2 ⊢
    have h3 := fmod_bd (i := x * x + 7817) (j := 2147483587) (by decide)
    refine ⟨mulOk40 h2.1 (by omega) h2.1 (by omega), by decide, ?_⟩
    generalize (x * x + 7817).fmod 2147483587 = y at h3 ⊢
    have h4 := fmod_bd (i := y * 48271 + 11) (j := 2147483629) (by decide)
    refine ⟨mulOk40 h3.1 (by omega) (by decide) (by decide), by decide, ?_⟩
    conv => whnf
    generalize (y * 48271 + 11).fmod 2147483629 = z at h4 ⊢
    exact ⟨⟨by decide, by decide +kernel⟩, hn0, Out.id (q _ _ ⟨_, _, (fmod_bd hn).1, (fmod_bd hn).2, ⟨_, _, rfl, h4.1⟩, rfl, rfl⟩)⟩

theorem cd_sum (ds : List Nat) : ((ds.map fun d => (⟨#[d + 48]⟩ : Str)).map (·.length)).sum = ds.length := by
  induction ds with
  | nil => rfl
  | cons d ds ih => rw [List.map_cons, List.map_cons, List.sum_cons, ih, List.length_cons]; show 1 + ds.length = _; omega
def sp__law_code : PSp := SpS (fun (a : Addr) => [.ref a]) (fun a S => ∃ m, S a = some m ∧ Pn2 m) fun a S p S' => ∃ ds m, (∀ d ∈ ds, d < 4) ∧ ds.length ≤ 4 ∧ Pn2 m ∧ p = .str (cdS ds) ∧ S' = put S a m
def b__law_code : PFS :=
  gSeq (gSet 1 (f2 oIx (fN oLst (fCons (fC (.int 0)) (fCons (fC (.int 1)) (fCons (fC (.int 1)) (fCons (fC (.int 2)) (fCons (fC (.int 2)) (fCons (fC (.int 3)) (fCons (fC (.int 3)) (fCons (fC (.int 4)) (fCons (fC (.int 4)) (fNil))))))))))) (fCall sp__law_draw [] noE (fCons (fVar 0) (fCons (fC (.int 9)) (fNil))))))
    (gRet (fMs oJoin (fC (.str "")) (fLc (fRng1 (fCons (fVar 1) (fNil))) (.nm 2) (fYes) (f2 oIx (fC (.str "0123")) (fCall sp__law_draw [] noE (fCons (fVar 0) (fCons (fC (.int 4)) (fNil))))) [2])))
theorem len__law_code : ∀ (xs : List Pv) (S : Sto) (Q : QV) (E : QE), sp__law_code xs S Q E → xs.length = 1 := SpS.len fun _ => rfl
theorem mono__law_code : ∀ (xs : List Pv) (S : Sto) (Q Q' : QV) (E E' : QE), (∀ p S', Q p S' → Q' p S') → (∀ C S', E C S' → E' C S') → sp__law_code xs S Q E → sp__law_code xs S Q' E' := SpS.mono
theorem ex__law_code {xs : List Pv} {S0 : Sto} {Q : QV} {Ep : QE} : sp__law_code xs S0 Q Ep → b__law_code (endD Q) (st0 3 xs) S0 := SpS.ex fun l S Q hm q => by
  refine ⟨lz rfl, (l, 9), rfl, ⟨hm, (by decide : (0 : Int) < 9), (by decide : (9 : Int) < 2 ^ 64)⟩, ?_⟩
  rintro _ _ ⟨r, m1, r0, r1, s1, rfl, rfl⟩
  have r1 : r < 9 := r1
  obtain ⟨n, e, n0, n4⟩ := at_ints (ns := [0, 1, 1, 2, 2, 3, 3, 4, 4]) (r := r) (P := fun n => 0 ≤ n ∧ n ≤ 4) r0 (by simpa using r1) (by decide)
  show match atI ([0, 1, 1, 2, 2, 3, 3, 4, 4].map Pv.int) r with | some p => _ | none => False
  rw [e]
  try simp only [st0, wipeP, List.set_cons_zero, List.set_cons_succ, List.map_cons, List.map_nil, List.cons_append, List.nil_append, List.replicate_succ, List.replicate_zero, List.length_cons, List.length_nil, Nat.reduceSub, Nat.reduceAdd]
  refine ⟨rfl, ⟨by omega, by omega⟩, ?_⟩
  intro D hD
  have hlD : l ≠ D := fun e => by rw [← e, put_same] at hD; cases hD
  refine lcW_indN (fun acc S2 => ∃ ds m, acc = ds.map fg ∧ (∀ d ∈ ds, d < 4) ∧ Pn2 m ∧ S2 = put S l m) (fun _ => trivial) (fun _ => True) n.toNat (Nat.le_trans (show n.toNat ≤ 9 by omega) (by decide)) _ [] _ ?_ (fun _ _ => trivial) hD ⟨[], m1, rfl, by simp, s1, rfl⟩ ?_ ?_
  · unfold rngP
    simp
  · rintro acc S2 hlen hD2 ⟨ds, m, rfl, hd, sm, rfl⟩
    have hl : ds.length ≤ 4 := by
      rw [List.length_map] at hlen
      omega
    show match (some (ds.map fg)).bind allS with | some ys => (ys.map (·.length)).sum + ys.length * (Str.ofString "").length ≤ 16777216 ∧ Out Q (.str (Txt.join (Str.ofString "") ys)) (put S l m) | none => False
    rw [Option.bind_some, allS_fg]
    refine ⟨?_, Out.id (q _ _ ⟨ds, m, hd, hl, sm, ?_, rfl⟩)⟩
    · rw [cd_sum, show (Str.ofString "").length = 0 from rfl]
      omega
    · rw [join_cd]
  · rintro x - acc S2 k hD2 ⟨ds, m, rfl, hd, sm, rfl⟩ hk
    refine ⟨_, rfl, ?_⟩
    refine ⟨(l, 4), rfl, ⟨⟨m, by rw [put_ne hlD]; exact put_same, sm⟩, (by decide : (0 : Int) < 4), (by decide : (4 : Int) < 2 ^ 64)⟩, ?_⟩
    rintro _ _ ⟨j, m2, j0, j1, s2, rfl, rfl⟩
    obtain ⟨d, rfl⟩ : ∃ d : Nat, j = (d : Int) := ⟨j.toNat, by omega⟩
    have hd4 : d < 4 := by
      have : (d : Int) < 4 := j1
      omega
    conv => whnf
    rw [at_fig hd4]
    refine ⟨by decide +kernel, hk _ _ ?_ ⟨ds ++ [d], m2, by simp, ?_, s2, ?_⟩⟩
    · show put (put (put S l m) D (.lst (ds.map fg))) l m2 D = _
      rw [put_ne (Ne.symm hlD)]
      exact put_same
    · intro e he
      rcases List.mem_append.mp he with h | h
      · exact hd e h
      · have : e = d := by simpa using h
        omega
    · show del (put (put (put S l m) D (.lst (ds.map fg))) l m2) D = _
      rw [put_comm (Ne.symm hlD), del_put (by rw [put_put]; rw [put_ne (Ne.symm hlD)] at hD2 ⊢; exact hD2), put_put]

def sp__law_codes : PSp := SpS (fun (a : Addr) => [.ref a]) (fun a S => ∃ m, S a = some m ∧ Pn2 m) fun a S p S' => ∃ ss m, codesS 4 ss = true ∧ ss ≠ [] ∧ ss.length ≤ 6 ∧ Pn2 m ∧ p = .tup (ss.map .str) ∧ S' = put S a m
def b__law_codes : PFS :=
  gSeq (gSet 1 (fN oLstT (fCons (fCall sp__law_code [] noE (fCons (fVar 0) (fNil))) (fNil))))
    (gSeq (gBeg [2, 3] (gFor (fRng1 (fCons (fCall sp__law_draw [] noE (fCons (fVar 0) (fCons (fC (.int 6)) (fNil)))) (fNil))) (.nm 2) (gEnd [2, 3] (gSeq (gSet 3 (fCall sp__law_code [] noE (fCons (fVar 0) (fNil))))
    (gIf (fBV (f2 oEq (fLc (fIt (fVar 1)) (.nm 4) (fOr (fBV (fMs oStarts (fVar 4) (fVar 3))) (fBV (fMs oStarts (fVar 3) (fVar 4)))) (fVar 4) [4]) (fN oLst (fNil)))) (gDrop (fMeth ckL oAppend (fVar 1) (fCons (fVar 3) (fNil)))) (gNext))))))
    (gRet (fN oTuple (fCons (fN oSorted (fCons (fVar 1) (fNil))) (fNil)))))
theorem len__law_codes : ∀ (xs : List Pv) (S : Sto) (Q : QV) (E : QE), sp__law_codes xs S Q E → xs.length = 1 := SpS.len fun _ => rfl
theorem mono__law_codes : ∀ (xs : List Pv) (S : Sto) (Q Q' : QV) (E E' : QE), (∀ p S', Q p S' → Q' p S') → (∀ C S', E C S' → E' C S') → sp__law_codes xs S Q E → sp__law_codes xs S Q' E' := SpS.mono
theorem ex__law_codes {xs : List Pv} {S0 : Sto} {Q : QV} {Ep : QE} : sp__law_codes xs S0 Q Ep → b__law_codes (endD Q) (st0 5 xs) S0 := SpS.ex fun l S Q hm q => by
  refine ⟨l, rfl, hm, ?_⟩
  rintro _ _ ⟨d1, m1, h4, hl, s1, rfl, rfl⟩
  refine ⟨lz rfl, fun a ha => ?_⟩
  have k0 := Pk.new (S := S) (l := l) s1
  have hal := k0.ne ha
  have haS := k0.ne' ha
  have k1 := k0.alloc (x := .lst ([cdS d1].map .str)) ha
  try simp only [st0, wipeP, List.set_cons_zero, List.set_cons_succ, List.map_cons, List.map_nil, List.cons_append, List.nil_append, List.replicate_succ, List.replicate_zero, List.length_cons, List.length_nil, Nat.reduceSub, Nat.reduceAdd]
  refine ⟨(l, 6), rfl, ⟨k1.pen, (by decide : (0 : Int) < 6), (by decide : (6 : Int) < 2 ^ 64)⟩, ?_⟩
  rintro _ _ ⟨r, m2, r0, r1, s2, rfl, rfl⟩
  have r1 : r < 6 := r1
  have k2 := k1.draw s2
  have hSa : put (put (put S l m1) a (.lst ([cdS d1].map .str))) l m2 a = some (.lst ([cdS d1].map .str)) := by rw [put_ne hal]; exact put_same
  refine ⟨⟨by omega, by omega⟩, ?_⟩
  try simp only [st0, wipeP, List.set_cons_zero, List.set_cons_succ, List.map_cons, List.map_nil, List.cons_append, List.nil_append, List.replicate_succ, List.replicate_zero, List.length_cons, List.length_nil, Nat.reduceSub, Nat.reduceAdd]
  show forW _ _ _ _ (rngP 0 r) _ (put (put (put S l m1) a (.lst ([cdS d1].map .str))) l m2)
  generalize put (put (put S l m1) a (.lst ([cdS d1].map .str))) l m2 = S1 at k2 hSa ⊢
  refine forW_a (fun (j : Nat) => .int ((0 : Int) + j)) (List.range r.toNat) (fun _ => [some (.ref l), some (.ref a), none, none, none]) (fun pre S2 => Pk Pn2 S l S2 ∧ ∃ ss, S2 a = some (.lst (ss.map .str)) ∧ ss.Pairwise nbr ∧ (∀ s ∈ ss, codeN 4 s = true) ∧ ss ≠ [] ∧ ss.length ≤ 1 + pre.length) (by unfold rngP; rw [Int.sub_zero]) rfl ⟨k2, [cdS d1], hSa, List.pairwise_singleton _ _, ?_, by simp, Nat.le_refl _⟩ ?_ ?_
  · intro s hs
    have : s = cdS d1 := by simpa using hs
    rw [this]
    exact codeN_cd h4 hl (by decide)
  · rintro S2 ⟨k3, ss, hS2, pw, hc, hne, hlen⟩
    rw [List.length_range] at hlen
    refine ⟨trivial, ?_⟩
    conv => whnf
    rw [show rdL S2 (.ref a) = some (ss.map .str) by simp [rdL, hS2]]
    refine ⟨sortOk_str ss, ?_⟩
    rw [sortP_str]
    refine k3.out fun m g => q _ _ ⟨sortS ss, m, ?_, ?_, ?_, g, rfl, rfl⟩
    · unfold codesS
      have e1 : (sortS ss).all (codeN 4) = true := List.all_eq_true.mpr fun s hs => hc s ((List.mergeSort_perm _ _).mem_iff.mp hs)
      rw [e1, (adj_pw (r := apart) (fun _ _ _ => apart_trans) (sortS ss)).mpr (apart_of pw)]; rfl
    · intro e
      have := List.length_mergeSort (le := leS) ss
      rw [show ss.mergeSort leS = sortS ss from rfl, e] at this
      exact hne (List.length_eq_zero_iff.mp this.symm)
    · unfold sortS
      rw [List.length_mergeSort]
      omega
  rintro pre j post e kk hk S2 ⟨k3, ss, hS2, pw, hc, hne, hlen⟩
  have hpl : pre.length < 6 := by
    have := congrArg List.length e
    simp only [List.length_append, List.length_cons, List.length_range] at this
    omega
  refine ⟨trivial, l, rfl, k3.pen, ?_⟩
  rintro _ _ ⟨d2, m3, h4', hl', s3, rfl, rfl⟩
  have k4 := k3.draw s3
  have hS3 : put S2 l m3 a = some (.lst (ss.map .str)) := by rw [put_ne hal]; exact hS2
  try simp only [st0, wipeP, List.set_cons_zero, List.set_cons_succ, List.map_cons, List.map_nil, List.cons_append, List.nil_append, List.replicate_succ, List.replicate_zero, List.length_cons, List.length_nil, Nat.reduceSub, Nat.reduceAdd]
  generalize put S2 l m3 = S3 at k4 hS3 ⊢
  have hcd := codeN_cd h4' hl' (by decide : 4 ≤ 9)
  conv => whnf
  rw [show itP S3 (.ref a) = some (ss.map .str, fun S' => S' a = some (.lst (ss.map .str))) by simp [itP, hS3]]
  generalize cdS d2 = c at *
  refine lc_filter ss Pv.str (fun z => preS c z || preS z c) Pv.str rfl (Nat.le_trans (show ss.length ≤ 100 by omega) (by decide)) (fun S' hs => hs a _ hS3) (fun z hz S' _ => ⟨_, rfl, fun kk hk => ⟨rfl, ?_⟩, fun _ k hk => hk⟩) ?_
  · refine cnd_i (b := preS c z) (fun e => ?_) (fun e => ⟨rfl, ?_⟩)
    · rw [e] at hk; exact hk
    · rw [e] at hk; exact hk
  refine ⟨lz rfl, ⟨okD_lstr fun s hs => (codeN_asc (hc s (List.mem_filter.mp hs).1)).1, rfl⟩, ?_⟩
  refine cnd_i (b := PyData.eqv (.list (toDs ((ss.filter fun z => preS c z || preS z c).map .str))) (.list [])) (fun e => ?_) (fun e => ?_)
  · rw [eqv_nil, toDs_map, List.isEmpty_map, List.isEmpty_map] at e
    have e := List.filter_eq_nil_iff.mp (List.isEmpty_iff.mp e)
    refine ⟨by simp [ckL, rdL, hS3], ?_⟩
    conv => whnf
    refine app_w (ys := (ss ++ [c]).map .str) hS3 (by rw [List.length_map]; exact Nat.lt_of_le_of_lt (show ss.length ≤ 100 by omega) (by decide)) (by rw [List.map_append]; rfl) ?_
    intro S4 hS4 hS5
    refine hk _ ⟨k4.upd hS5 haS hal, ss ++ [c], hS4, ?_, ?_, by simp, ?_⟩
    · refine List.pairwise_append.mpr ⟨pw, List.pairwise_singleton _ _, fun x hx y hy => ?_⟩
      have : y = c := by simpa using hy
      subst this
      have := e x hx
      simp only [Bool.or_eq_true, not_or, Bool.not_eq_true] at this
      exact ⟨this.2, this.1⟩
    · intro s hs
      rcases List.mem_append.mp hs with hs | hs
      · exact hc s hs
      · have : s = c := by simpa using hs
        rw [this]; exact hcd
    · rw [List.length_append, List.length_append]
      show ss.length + 1 ≤ 1 + (pre.length + 1)
      omega
  · refine hk _ ⟨k4, ss, hS3, pw, hc, hne, ?_⟩
    rw [List.length_append]
    show ss.length ≤ 1 + (pre.length + 1)
    omega

def wordsL : List Str := ["a", "bb", "land", "north", "zzzzzzzz"]
def sp__law_words : PSp := SpF (fun (_ : Unit) => []) (fun _ => True) fun _ => .lst (wordsL.map .str)
def b__law_words : PFS :=
  gRet (fN oLst (fCons (fC (.str "a")) (fCons (fC (.str "bb")) (fCons (fC (.str "land")) (fCons (fC (.str "north")) (fCons (fC (.str "zzzzzzzz")) (fNil)))))))
theorem len__law_words : ∀ (xs : List Pv) (S : Sto) (Q : QV) (E : QE), sp__law_words xs S Q E → xs.length = 0 := SpF.len fun _ => rfl
theorem mono__law_words : ∀ (xs : List Pv) (S : Sto) (Q Q' : QV) (E E' : QE), (∀ p S', Q p S' → Q' p S') → (∀ C S', E C S' → E' C S') → sp__law_words xs S Q E → sp__law_words xs S Q' E' := SpF.mono
theorem ex__law_words {xs : List Pv} {S0 : Sto} {Q : QV} {Ep : QE} : sp__law_words xs S0 Q Ep → b__law_words (endD Q) (st0 0 xs) S0 := SpF.ex fun _ S Q _ q => ⟨lz rfl, Out.id q⟩

def sp__law_moves : PSp := SpS (fun (a : Addr × Nat) => [.ref a.1, .int a.2]) (fun a S => (∃ m, S a.1 = some m ∧ Pn2 m) ∧ a.2 ≤ 24) fun a S p S' => ∃ m, MovesOk p ∧ Pn2 m ∧ S' = put S a.1 m
def b__law_moves : PFS :=
  gSeq (gPar 2 3 (fCons (f2 oIx (fN oLst (fCons (fC (.int 0)) (fCons (fCall sp__law_draw [] noE (fCons (fVar 0) (fCons (fC (.int 4)) (fNil)))) (fNil)))) (fCall sp__law_draw [] noE (fCons (fVar 0) (fCons (fC (.int 2)) (fNil))))) (fCons (fN oLstT (fNil)) (fNil))))
    (gSeq (gBeg [4] (gFor (fRng1 (fCons (fCall sp__law_draw [] noE (fCons (fVar 0) (fCons (f2 oAdd (fVar 1) (fC (.int 1))) (fNil)))) (fNil))) (.nm 4) (gEnd [4] (gSeq (gDrop (fMeth ckL oAppend (fVar 3) (fCons (fN oTup (fCons (fVar 2) (fCons (fCall sp__law_codes [] noE (fCons (fVar 0) (fNil))) (fCons (f2 oIx (fCallK sp__law_words 0 [] noE (fNil)) (fCall sp__law_draw [] noE (fCons (fVar 0) (fCons (fC (.int 5)) (fNil))))) (fNil))))) (fNil))))
    (gSet 2 (f2 oAdd (fVar 2) (f2 oIx (fN oLst (fCons (fC (.int 0)) (fCons (fC (.int 0)) (fCons (fC (.int 1)) (fCons (fCall sp__law_draw [] noE (fCons (fVar 0) (fCons (fC (.int 9)) (fNil)))) (fCons (f2 oPow (fC (.int 10)) (fC (.int 20))) (fNil))))))) (fN oMin (fCons (fC (.int 4)) (fCons (f2 oDiv (fCall sp__law_draw [] noE (fCons (fVar 0) (fCons (fC (.int 13)) (fNil)))) (fC (.int 3))) (fNil)))))))))))
    (gRet (fN oTuple (fCons (fVar 3) (fNil)))))
theorem len__law_moves : ∀ (xs : List Pv) (S : Sto) (Q : QV) (E : QE), sp__law_moves xs S Q E → xs.length = 2 := SpS.len fun _ => rfl
theorem mono__law_moves : ∀ (xs : List Pv) (S : Sto) (Q Q' : QV) (E E' : QE), (∀ p S', Q p S' → Q' p S') → (∀ C S', E C S' → E' C S') → sp__law_moves xs S Q E → sp__law_moves xs S Q' E' := SpS.mono
theorem ex__law_moves {xs : List Pv} {S0 : Sto} {Q : QV} {Ep : QE} : sp__law_moves xs S0 Q Ep → b__law_moves (endD Q) (st0 5 xs) S0 := SpS.ex fun ⟨l, n⟩ S Q ⟨hm, hn⟩ q => by
  have hn : n ≤ 24 := hn
  refine ⟨(l, 4), rfl, ⟨hm, (by decide : (0 : Int) < 4), (by decide : (4 : Int) < 2 ^ 64)⟩, ?_⟩
  rintro _ _ ⟨r, m1, r0, r1, s1, rfl, rfl⟩
  have r1 : r < 4 := r1
  refine ⟨lz rfl, (l, 2), rfl, ⟨⟨_, put_same, s1⟩, (by decide : (0 : Int) < 2), (by decide : (2 : Int) < 2 ^ 64)⟩, ?_⟩
  rintro _ _ ⟨r2, m2, r20, r21, s2, rfl, rfl⟩
  have r21 : r2 < 2 := r21
  obtain ⟨d0, e, hd0, hd1⟩ := at_ints (ns := [0, r]) (r := r2) (P := fun n => 0 ≤ n ∧ n < 4) r20 (by simpa using r21) (by
    intro z hz
    simp only [List.mem_cons, List.not_mem_nil, or_false] at hz
    rcases hz with rfl | rfl <;> omega)
  show match atI ([0, r].map Pv.int) r2 with | some p => _ | none => False
  rw [e]
  refine ⟨lz rfl, fun a ha => ?_⟩
  have k0 := (Pk.new (S := S) (l := l) s1).draw s2
  have hal := k0.ne ha
  have haS := k0.ne' ha
  have k1 := k0.alloc (x := .lst []) ha
  try simp only [st0, wipeP, List.set_cons_zero, List.set_cons_succ, List.map_cons, List.map_nil, List.cons_append, List.nil_append, List.replicate_succ, List.replicate_zero, List.length_cons, List.length_nil, Nat.reduceSub, Nat.reduceAdd]
  refine ⟨(l, (n : Int) + 1), rfl, ⟨k1.pen, show (0 : Int) < (n : Int) + 1 by omega, show (n : Int) + 1 < 2 ^ 64 by omega⟩, ?_⟩
  rintro _ _ ⟨t, m3, t0, t1, s3, rfl, rfl⟩
  have t1 : t < (n : Int) + 1 := t1
  have k2 := k1.draw s3
  have hSa : put (put (put (put S l m1) l m2) a (.lst [])) l m3 a = some (.lst []) := by rw [put_ne hal]; exact put_same
  refine ⟨⟨by omega, by omega⟩, ?_⟩
  try simp only [st0, wipeP, List.set_cons_zero, List.set_cons_succ, List.map_cons, List.map_nil, List.cons_append, List.nil_append, List.replicate_succ, List.replicate_zero, List.length_cons, List.length_nil, Nat.reduceSub, Nat.reduceAdd]
  show forW _ _ _ _ (rngP 0 t) _ (put (put (put (put S l m1) l m2) a (.lst [])) l m3)
  generalize put (put (put (put S l m1) l m2) a (.lst [])) l m3 = S1 at k2 hSa ⊢
  rw [show rngP 0 t = (List.range t.toNat).map fun (j : Nat) => .int ((0 : Int) + j) by unfold rngP; rw [Int.sub_zero]]
  refine forW_acc (fun (j : Nat) => .int ((0 : Int) + j)) (List.range t.toNat) (fun pre ρ S2 => ∃ (d : Int) (ms : List Pv), ρ = [some (.ref l), some (.int n), some (.int d), some (.ref a), none] ∧ Pk Pn2 S l S2 ∧ S2 a = some (.lst ms) ∧ (∀ m ∈ ms, MvOk m) ∧ (ms.map dayI).Pairwise (· ≤ ·) ∧ (∀ m ∈ ms, dayI m ≤ d) ∧ 0 ≤ d ∧ d ≤ 4 + pre.length * 10 ^ 20 ∧ ms.length ≤ pre.length) ?_ ?_ [] _ _ _ rfl ⟨d0, [], rfl, k2, hSa, by simp, .nil, by simp, hd0, by simp; omega, Nat.le_refl _⟩
  · rintro _ S2 ⟨d, ms, rfl, k3, hS2, hok, hpw, hle, hd, hdu, hlen⟩
    rw [List.length_range] at hlen
    refine ⟨trivial, ?_⟩
    conv => whnf
    rw [show rdL S2 (.ref a) = some ms by simp [rdL, hS2]]
    exact k3.out fun m g => q _ _ ⟨m, movesOk hok (by omega) hpw, g, rfl⟩
  rintro pre j post e1 kk hk _ S2 ⟨d, ms, rfl, k3, hS2, hok, hpw, hle, hd, hdu, hlen⟩
  have hpl : pre.length < 25 := by
    have := congrArg List.length e1
    simp only [List.length_append, List.length_cons, List.length_range] at this
    omega
  have hdz : szI 80 d := by
    unfold szI
    have : d ≤ 4 + 25 * 10 ^ 20 := by omega
    omega
  refine ⟨trivial, by simp [ckL, rdL, hS2], l, rfl, k3.pen, ?_⟩
  rintro _ _ ⟨ss, m4, hcs, hne, hsl, s4, rfl, rfl⟩
  have k4 := k3.draw s4
  refine ⟨rfl, (), rfl, trivial, ?_⟩
  refine ⟨(l, 5), rfl, ⟨k4.pen, (by decide : (0 : Int) < 5), (by decide : (5 : Int) < 2 ^ 64)⟩, ?_⟩
  rintro _ _ ⟨w, m5, w0, w1, s5, rfl, rfl⟩
  have w1 : w < 5 := w1
  have k5 := k4.draw s5
  obtain ⟨wd, e2, hwd⟩ := at_map (xs := wordsL) (f := Pv.str) (P := fun x => wordS x = true) w0 w1 (by decide +kernel)
  show match atI (wordsL.map Pv.str) w with | some p => _ | none => False
  rw [e2]
  refine ⟨lz rfl, ?_⟩
  have hS5 : put (put S2 l m4) l m5 a = some (.lst ms) := by rw [put_ne hal, put_ne hal]; exact hS2
  generalize put (put S2 l m4) l m5 = S5 at k5 hS5 ⊢
  conv => whnf
  refine app_w (ys := ms ++ [.tup [.int d, .tup (ss.map .str), .str wd]]) hS5 (Nat.lt_of_le_of_lt (show ms.length ≤ 100 by omega) (by decide)) rfl ?_
  intro S6 hS6 hS7
  have k6 := k5.upd hS7 haS hal
  have fin : ∀ (x : Int) (S9 : Sto), 0 ≤ x → x ≤ 10 ^ 20 → Pk Pn2 S l S9 → S9 a = some (.lst (ms ++ [.tup [.int d, .tup (ss.map .str), .str wd]])) → kk [some (.ref l), some (.int n), some (.int (d + x)), some (.ref a), none] S9 := by
    intro x S9 x0 x1 k9 hS9
    refine hk _ _ ⟨d + x, _, rfl, k9, hS9, ?_, ?_, ?_, by omega, ?_, ?_⟩
    · intro m hm
      rcases List.mem_append.mp hm with hm | hm
      · exact hok m hm
      · have : m = .tup [.int d, .tup (ss.map .str), .str wd] := by simpa using hm
        rw [this]
        exact mvOk hd hdz hcs hne hsl hwd
    · rw [List.map_append]
      refine List.pairwise_append.mpr ⟨hpw, List.pairwise_singleton _ _, fun x hx y hy => ?_⟩
      have : y = d := by simpa [dayI] using hy
      obtain ⟨m, hm, rfl⟩ := List.mem_map.mp hx
      rw [this]
      exact hle m hm
    · intro m hm
      rcases List.mem_append.mp hm with hm | hm
      · have := hle m hm
        omega
      · have : m = .tup [.int d, .tup (ss.map .str), .str wd] := by simpa using hm
        rw [this]
        show d ≤ d + x
        omega
    · rw [List.length_append]
      show d + x ≤ 4 + ((pre.length + 1 : Nat) : Int) * 10 ^ 20
      omega
    · rw [List.length_append, List.length_append]
      show ms.length + 1 ≤ pre.length + 1
      omega
  refine ⟨(l, 9), rfl, ⟨k6.pen, (by decide : (0 : Int) < 9), (by decide : (9 : Int) < 2 ^ 64)⟩, ?_⟩
  rintro _ _ ⟨u, m7, u0, u1, s7, rfl, rfl⟩
  have u1 : u < 9 := u1
  have k7 := k6.draw s7
  refine ⟨⟨by decide, by decide, by decide⟩, lz rfl, (l, 13), rfl, ⟨k7.pen, (by decide : (0 : Int) < 13), (by decide : (13 : Int) < 2 ^ 64)⟩, ?_⟩
  rintro _ _ ⟨v, m8, v0, v1, s8, rfl, rfl⟩
  have v1 : v < 13 := v1
  have k8 := k7.draw s8
  refine ⟨⟨by decide, by decide +kernel⟩, ?_⟩
  have hv : 0 ≤ v.fdiv 3 := fdiv_nn v0 (by decide)
  have hix : 0 ≤ (if v.fdiv 3 < 4 then v.fdiv 3 else 4) ∧ (if v.fdiv 3 < 4 then v.fdiv 3 else 4) < 5 := by split <;> omega
  obtain ⟨x, e3, x0, x1⟩ := at_ints (ns := [0, 0, 1, u, 10 ^ 20]) (r := if v.fdiv 3 < 4 then v.fdiv 3 else 4) (P := fun n => 0 ≤ n ∧ n ≤ 10 ^ 20) hix.1 (by simpa using hix.2) (by
    intro z hz
    simp only [List.mem_cons, List.not_mem_nil, or_false] at hz
    rcases hz with rfl | rfl | rfl | rfl | rfl <;> omega)
  show match atI ([0, 0, 1, u, 10 ^ 20].map Pv.int) (if v.fdiv 3 < 4 then v.fdiv 3 else 4) with | some p => _ | none => False
  rw [e3]
  exact fin x _ x0 x1 k8 (by rw [put_ne hal, put_ne hal]; exact hS6)

structure MsOk (ms : List Mv) : Prop where
  t : ∀ m ∈ ms, MvT m
  sm : smP (.tup (ms.map mvP)) = true
  q : movesP (.tup (ms.map mvP)) = true
  len : ms.length ≤ 24
  ok : okD (.tup (ms.map mvP)) = true
theorem MsOk.nil : MsOk [] := ⟨by simp, rfl, rfl, by decide, rfl⟩
theorem msOk {p : Pv} (h : MovesOk p) : ∃ ms : List Mv, p = .tup (ms.map mvP) ∧ MsOk ms := by
  obtain ⟨ms, rfl, h1, h2⟩ := movesT h
  exact ⟨ms, rfl, h1, h.th.sm, h.q, h2, okD_of h.d h.th.fn (Nat.le_trans h.th.dp (by decide))⟩
def sp__law_days : PSp := SpS (fun (a : Addr × List Mv) => [.ref a.1, .tup (a.2.map mvP)]) (fun a S => (∃ m, S a.1 = some m ∧ Pn2 m) ∧ MsOk a.2) fun a S p S' => ∃ (L : List Int) (m : Mo), ((∀ d ∈ L, (0 : Int) ≤ d) ∧ (0 : Int) ∈ L ∧ L.length ≤ 11) ∧ Pn2 m ∧ p = .lst (L.map .int) ∧ S' = put S a.1 m
def b__law_days : PFS :=
  gSeq (gSet 2 (fDispT (fCons (fC (.int 0)) (fCons (fC (.int 1)) (fCons (f2 oPow (fC (.int 10)) (fC (.int 29))) (fCons (fC (.int 1)) (fNil)))))))
    (gSeq (gBeg [3, 4] (gFor (fRng1 (fCons (fC (.int 3)) (fNil))) (.nm 3) (gEnd [3, 4] (gIf (fBV (f2 oNe (fVar 1) (fN oTup (fNil)))) (gSeq (gSet 4 (f2 oIx (f2 oIx (fVar 1) (fCall sp__law_draw [] noE (fCons (fVar 0) (fCons (fN oLen (fCons (fVar 1) (fNil))) (fNil))))) (fC (.int 0))))
    (gDrop (fMeth ckD oUpdD (fVar 2) (fCons (fDisp (fCons (fVar 4) (fCons (fC (.int 1)) (fCons (fN oMax (fCons (fC (.int 0)) (fCons (f2 oSub (fVar 4) (fC (.int 1))) (fNil)))) (fCons (fC (.int 1)) (fCons (f2 oAdd (fVar 4) (fC (.int 1))) (fCons (fC (.int 1)) (fNil)))))))) (fNil))))) (gNext)))))
    (gRet (fN oSorted (fCons (fN oListD (fCons (fVar 2) (fNil))) (fNil)))))
theorem len__law_days : ∀ (xs : List Pv) (S : Sto) (Q : QV) (E : QE), sp__law_days xs S Q E → xs.length = 2 := SpS.len fun _ => rfl
theorem mono__law_days : ∀ (xs : List Pv) (S : Sto) (Q Q' : QV) (E E' : QE), (∀ p S', Q p S' → Q' p S') → (∀ C S', E C S' → E' C S') → sp__law_days xs S Q E → sp__law_days xs S Q' E' := SpS.mono
theorem ex__law_days {xs : List Pv} {S0 : Sto} {Q : QV} {Ep : QE} : sp__law_days xs S0 Q Ep → b__law_days (endD Q) (st0 5 xs) S0 := SpS.ex fun ⟨l, ms⟩ S Q ⟨hm, ho⟩ q => by
  have ho : MsOk ms := ho
  have hm : ∃ m, S l = some m ∧ Pn2 m := hm
  intro D hD
  have k0 := Pk.of hm
  have hDl := k0.ne hD
  have k1 := k0.alloc (x := .dct [] []) hD
  refine ⟨⟨by decide, by decide, by decide⟩, put_same, [(.int 0, .int 1), (.int (10 ^ 29), .int 1)], rfl, fun z hz => ?_, by decide, ⟨by decide, by decide⟩, ?_⟩
  · simp only [List.map_cons, List.map_nil, List.mem_cons, List.not_mem_nil, or_false] at hz
    rcases hz with rfl | rfl <;> rfl
  have e0 : mgD [] [] ([((.int 0, .int 1) : Pv × Pv), (.int (10 ^ 29), .int 1)].map (·.1)) ([((.int 0, .int 1) : Pv × Pv), (.int (10 ^ 29), .int 1)].map (·.2)) = (([0, 10 ^ 29] : List Int).map Pv.int, [.int 1, .int 1]) := by rfl
  rw [e0, put_put]
  try simp only [st0, wipeP, List.set_cons_zero, List.set_cons_succ, List.map_cons, List.map_nil, List.cons_append, List.nil_append, List.replicate_succ, List.replicate_zero, List.length_cons, List.length_nil, Nat.reduceSub, Nat.reduceAdd]
  refine forW_acc (fun (j : Nat) => .int ((0 : Int) + j)) (List.range 3) (fun pre ρ S' => ∃ (is : List Int) (ys : List Pv), ρ = [some (.ref l), some (.tup (ms.map mvP)), some (.ref D), none, none] ∧ S' D = some (.dct (is.map .int) ys) ∧ Pk Pn2 S l S' ∧ ys.length = is.length ∧ is.length ≤ 2 + 3 * pre.length ∧ (0 : Int) ∈ is ∧ ∀ d ∈ is, 0 ≤ d) ?_ ?_ [] (List.range 3) _ _ rfl ⟨[0, 10 ^ 29], [.int 1, .int 1], rfl, put_same, k0.alloc hD, rfl, by decide, by decide, by decide⟩
  · rintro _ S' ⟨is, ys, rfl, hS', k2, hyl, hil, h0in, hpos⟩
    refine ⟨trivial, ?_⟩
    show (match (match S' D with | some (.dct ks xs) => some (ks, xs) | _ => none) with | some (ks, _) => _ | none => False)
    rw [hS']
    refine ⟨sortOk_int _, ?_⟩
    rw [sortP_int]
    exact k2.out fun m g => q _ _ ⟨sortI is, m, ⟨fun d hd => hpos d ((sortI_perm is).mem_iff.mp hd), (sortI_perm is).mem_iff.mpr h0in, by rw [(sortI_perm is).length_eq]; exact hil⟩, g, rfl, rfl⟩
  rintro pre j post e kk hk _ S' ⟨is, ys, rfl, hS', k2, hyl, hil, h0in, hpos⟩
  have hpl : pre.length < 3 := by
    have h2 := congrArg List.length e
    simp only [List.length_append, List.length_cons, List.length_range] at h2
    omega
  refine ⟨trivial, lz rfl, ⟨ho.ok, rfl⟩, ?_⟩
  try simp only [st0, wipeP, List.set_cons_zero, List.set_cons_succ, List.map_cons, List.map_nil, List.cons_append, List.nil_append, List.replicate_succ, List.replicate_zero, List.length_cons, List.length_nil, Nat.reduceSub, Nat.reduceAdd]
  refine cnd_i (b := !PyData.eqv (toD (.tup (ms.map mvP))) (.tuple [])) (fun e1 => ?_) (fun e1 => ?_)
  rotate_left
  · exact hk _ _ ⟨is, ys, rfl, hS', k2, hyl, by rw [List.length_append]; omega, h0in, hpos⟩
  have hne : ms ≠ [] := by
    rintro rfl
    cases e1
  have hpos2 : 0 < ms.length := List.length_pos_iff.mpr hne
  have h24 := ho.len
  refine ⟨(l, (ms.length : Int)), ?_, ⟨k2.pen, show (0 : Int) < ms.length by omega, show (ms.length : Int) < 2 ^ 64 by omega⟩, ?_⟩
  · show [Pv.ref l, .int ((ms.map mvP).length : Nat)] = _
    rw [List.length_map]
  rintro _ _ ⟨r, m1, r0, r1, s1, rfl, rfl⟩
  have r1 : r < ms.length := r1
  obtain ⟨m, em, hm1⟩ := at_map (xs := ms) (f := mvP) (r := r) (P := fun m => MvT m) r0 r1 ho.t
  show match atI (ms.map mvP) r with | some p => _ | none => False
  rw [em]
  have k3 := k2.draw s1
  have hS3 : put S' l m1 D = some (.dct (is.map .int) ys) := by rw [put_ne hDl]; exact hS'
  generalize put S' l m1 = S3 at k3 hS3 ⊢
  try simp only [st0, wipeP, List.set_cons_zero, List.set_cons_succ, List.map_cons, List.map_nil, List.cons_append, List.nil_append, List.replicate_succ, List.replicate_zero, List.length_cons, List.length_nil, Nat.reduceSub, Nat.reduceAdd]
  refine ⟨by simp [ckD, hS3], fun D2 hD2 => ?_⟩
  refine ⟨put_same, [(.int m.1, .int 1), (.int (if m.1 - 1 > 0 then m.1 - 1 else 0), .int 1), (.int (m.1 + 1), .int 1)], rfl, fun z hz => ?_, show (3 : Nat) ≤ 15 by decide, ?_⟩
  · simp only [List.map_cons, List.map_nil, List.mem_cons, List.not_mem_nil, or_false] at hz
    rcases hz with rfl | rfl | rfl <;> rfl
  have h0 := hm1.day
  rw [del_put hD2]
  obtain ⟨zs, ez, ezl⟩ := mgD_ints [m.1, if m.1 - 1 > 0 then m.1 - 1 else 0, m.1 + 1] [] [] [.int 1, .int 1, .int 1] rfl rfl
  have hml := mgI_len [m.1, if m.1 - 1 > 0 then m.1 - 1 else 0, m.1 + 1] []
  have hmm := mgI_mem [m.1, if m.1 - 1 > 0 then m.1 - 1 else 0, m.1 + 1] []
  have ez : mgD [] [] ([((.int m.1, .int 1) : Pv × Pv), (.int (if m.1 - 1 > 0 then m.1 - 1 else 0), .int 1), (.int (m.1 + 1), .int 1)].map (·.1)) ([((.int m.1, .int 1) : Pv × Pv), (.int (if m.1 - 1 > 0 then m.1 - 1 else 0), .int 1), (.int (m.1 + 1), .int 1)].map (·.2)) = _ := ez
  rw [ez]
  have hj : ∀ x ∈ mgI [] [m.1, if m.1 - 1 > 0 then m.1 - 1 else 0, m.1 + 1], 0 ≤ x := fun x hx => by
    rcases (hmm x).mp hx with hx | hx
    · cases hx
    · simp only [List.mem_cons, List.not_mem_nil, or_false] at hx
      rcases hx with rfl | rfl | rfl
      · exact h0
      · split <;> omega
      · omega
  have hml : (mgI [] [m.1, if m.1 - 1 > 0 then m.1 - 1 else 0, m.1 + 1]).length ≤ 3 := hml
  generalize mgI [] [m.1, if m.1 - 1 > 0 then m.1 - 1 else 0, m.1 + 1] = js at hj hml ezl ⊢
  obtain ⟨zs2, ez3, ez4⟩ := mgD_ints js is ys zs hyl ezl
  have hfin := mgI_len js is
  show (match S3 D with | some (.dct ks xs) => kysOk ks ∧ kysOk (js.map .int) ∧ _ | _ => False)
  rw [hS3]
  refine ⟨fun w hw => by obtain ⟨i, _, rfl⟩ := List.mem_map.mp hw; rfl, fun w hw => by obtain ⟨i, _, rfl⟩ := List.mem_map.mp hw; rfl, Nat.le_trans (show (is.map Pv.int).length + (js.map Pv.int).length ≤ 100 by rw [List.length_map, List.length_map]; omega) (by decide), ?_⟩
  rw [ez3]
  refine hk _ _ ⟨mgI is js, zs2, rfl, put_same, k3.put (k0.ne' hD) hDl, ez4, ?_, (mgI_mem js is 0).mpr (.inl h0in), fun d hd => ?_⟩
  · rw [List.length_append]
    show _ ≤ 2 + 3 * (pre.length + 1)
    omega
  · rcases (mgI_mem js is d).mp hd with h | h
    · exact hpos d h
    · exact hj d h

def sp__law_all : PSp := SpF (fun (_ : Unit) => []) (fun _ => True) fun _ => .lst ((allC 4).map cdK)
def b__law_all : PFS :=
  gSeq (gSet 0 (fN oLst (fCons (fC (.str "")) (fNil))))
    (gSeq (gBeg [1, 2, 3] (gFor (fRng1 (fCons (fC (.int 4)) (fNil))) (.nm 1) (gEnd [1, 2, 3] (gSeq (gSet 2 (fN oLst (fNil)))
    (gSeq (gBeg [3] (gFor (fIt (fVar 0)) (.nm 3) (gEnd [3] (gSet 2 (f2 oAdd (fVar 2) (fLc (fIt (fC (.str "0123"))) (.nm 4) (fYes) (f2 oAdd (fVar 3) (fVar 4)) [4]))))))
    (gSet 0 (fVar 2)))))))
    (gRet (fVar 0)))
theorem len__law_all : ∀ (xs : List Pv) (S : Sto) (Q : QV) (E : QE), sp__law_all xs S Q E → xs.length = 0 := SpF.len fun _ => rfl
theorem mono__law_all : ∀ (xs : List Pv) (S : Sto) (Q Q' : QV) (E E' : QE), (∀ p S', Q p S' → Q' p S') → (∀ C S', E C S' → E' C S') → sp__law_all xs S Q E → sp__law_all xs S Q' E' := SpF.mono
theorem ex__law_all {xs : List Pv} {S0 : Sto} {Q : QV} {Ep : QE} : sp__law_all xs S0 Q Ep → b__law_all (endD Q) (st0 5 xs) S0 := SpF.ex fun _ S Q _ k => by
  refine ⟨lz rfl, ⟨by decide, by decide⟩, ?_⟩
  try simp only [st0, wipeP, List.set_cons_zero, List.set_cons_succ, List.map_cons, List.map_nil, List.cons_append, List.nil_append, List.replicate_succ, List.replicate_zero, List.length_cons, List.length_nil, Nat.reduceSub, Nat.reduceAdd]
  refine forW_acc (fun (j : Nat) => .int ((0 : Int) + j)) (List.range 4) (fun pre ρ S' => S' = S ∧ ρ = [some (.lst ((allC pre.length).map cdK)), none, none, none, none]) ?_ ?_ [] (List.range 4) _ _ rfl ⟨rfl, rfl⟩
  · rintro _ S ⟨rfl, rfl⟩
    exact ⟨trivial, Out.id k⟩
  rintro pre j post e kk hk _ S ⟨rfl, rfl⟩
  have hl : pre.length ≤ 3 := by
    have h2 := congrArg List.length e
    simp only [List.length_append, List.length_cons, List.length_range] at h2
    omega
  have hk : kk [some (.lst ((allC (pre.length + 1)).map cdK)), none, none, none, none] S := by
    have := hk [some (.lst ((allC (pre.length + 1)).map cdK)), none, none, none, none] S ⟨rfl, by rw [List.length_append]; rfl⟩
    exact this
  generalize pre.length = n at hl hk ⊢
  have hn : (allC n).length ≤ 64 := by
    rw [allC_len]
    exact Nat.le_trans (Nat.pow_le_pow_right (by decide) hl) (by decide)
  refine ⟨trivial, lz rfl, ?_⟩
  try simp only [st0, wipeP, List.set_cons_zero, List.set_cons_succ, List.map_cons, List.map_nil, List.cons_append, List.nil_append, List.replicate_succ, List.replicate_zero, List.length_cons, List.length_nil, Nat.reduceSub, Nat.reduceAdd]
  refine forW_acc cdK (allC n) (fun pre ρ S' => S' = S ∧ ρ = [some (.lst ((allC n).map cdK)), some (.int (0 + (j : Nat))), some (.lst ((pre.flatMap fun c => [0, 1, 2, 3].map fun d => c ++ [d]).map cdK)), none, none]) ?_ ?_ [] (allC n) _ _ rfl ⟨rfl, rfl⟩
  · rintro _ S ⟨rfl, rfl⟩
    exact ⟨trivial, hk⟩
  rintro pre2 c post2 e2 k2 hk2 _ S ⟨rfl, rfl⟩
  have hc : c.length = n := ((allC_mem n c).mp (by rw [← e2]; simp)).1
  have hl2 : pre2.length < 64 := by
    have h2 := congrArg List.length e2
    simp only [List.length_append, List.length_cons] at h2
    omega
  have hl3 : ∀ l : List (List Nat), (l.flatMap fun c => [c ++ [0], c ++ [1], c ++ [2], c ++ [3]]).length = 4 * l.length := fun l => by
    induction l with
    | nil => rfl
    | cons a l ih => rw [List.flatMap_cons, List.length_append, ih]; simp only [List.length_cons, List.length_nil]; omega
  refine ⟨trivial, ?_⟩
  try simp only [st0, wipeP, List.set_cons_zero, List.set_cons_succ, List.map_cons, List.map_nil, List.cons_append, List.nil_append, List.replicate_succ, List.replicate_zero, List.length_cons, List.length_nil, Nat.reduceSub, Nat.reduceAdd]
  refine lc_map [0, 1, 2, 3] fg (fun d => cdK (c ++ [d])) rfl (lz rfl) (fun _ _ => trivial) (fun d hd S2 _ => ⟨_, rfl, fun k hk => ?_⟩) ?_
  · refine ⟨Nat.le_trans (show (cdS c).length + 1 ≤ 9 by rw [cd_len]; omega) (by decide), ?_⟩
    have ea : cdS c ++ (⟨#[d + 48]⟩ : Str) = cdS (c ++ [d]) := cd_app c [d]
    rw [ea]
    exact hk
  refine ⟨Nat.le_trans (show _ + 4 ≤ 1000 by rw [List.length_map, hl3]; omega) (by decide), hk2 _ _ ⟨rfl, ?_⟩⟩
  rw [List.flatMap_append, List.map_append]
  rfl

def sp__law_owners : PSp := SpS (fun (a : List Mv × Int) => [.tup (a.1.map mvP), .int a.2]) (fun a _ => ∀ m ∈ a.1, MvT m) fun a S p S' => ∃ b, S b = none ∧ p = .ref b ∧ S' = put S b (.dct ((allC 4).map cdK) ((allC 4).map fun c => .str (ownOf a.1 c a.2)))
def b__law_owners : PFS :=
  gSeq (gSet 2 (fDictT))
    (gSeq (gBeg [3, 4, 5, 6, 7] (gFor (fIt (fCallK sp__law_all 0 [] noE (fNil))) (.nm 3) (gEnd [3, 4, 5, 6, 7] (gSeq (gPutG (fC (.str "land")) (fVar 2) (fVar 3))
    (gBeg [4, 5, 6, 7] (gFor (fIt (fVar 0)) (.tp [.nm 4, .nm 5, .nm 6]) (gEnd [4, 5, 6, 7] (gSeq (gSet 7 (fLc (fIt (fVar 5)) (.nm 8) (fBV (fMs oStarts (fVar 3) (fVar 8))) (fVar 8) [8]))
    (gIf (fAnd (fBV (f2 oLe (fVar 4) (fVar 1))) (fBV (f2 oNe (fVar 7) (fN oLst (fNil))))) (gPutG (fVar 6) (fVar 2) (fVar 3)) (gNext))))))))))
    (gRet (fVar 2)))
theorem len__law_owners : ∀ (xs : List Pv) (S : Sto) (Q : QV) (E : QE), sp__law_owners xs S Q E → xs.length = 2 := SpS.len fun _ => rfl
theorem mono__law_owners : ∀ (xs : List Pv) (S : Sto) (Q Q' : QV) (E E' : QE), (∀ p S', Q p S' → Q' p S') → (∀ C S', E C S' → E' C S') → sp__law_owners xs S Q E → sp__law_owners xs S Q' E' := SpS.mono
theorem okD_cdk (cs : List (List Nat)) (h : CdOk cs) : okD (.lst (cs.map fun ds => .str (cdS ds))) = true := by
  have := okD_lstr (ss := cs.map cdS) fun s hs => by
    obtain ⟨ds, hds, rfl⟩ := List.mem_map.mp hs
    exact (codeN_asc (codeN_cd (n := 4) (h ds hds).1 (h ds hds).2 (by decide))).1
  rw [List.map_map] at this
  exact this
theorem kys_cd (cs : List (List Nat)) : kysOk (cs.map cdK) := fun z hz => by
  obtain ⟨c, _, rfl⟩ := List.mem_map.mp hz
  rfl
theorem ex__law_owners {xs : List Pv} {S0 : Sto} {Q : QV} {Ep : QE} : sp__law_owners xs S0 Q Ep → b__law_owners (endD Q) (st0 9 xs) S0 := SpS.ex fun ⟨ms, day⟩ S Q hms q => by
  have hms : ∀ m ∈ ms, MvT m := hms
  intro b hb
  refine ⟨rfl, (), rfl, trivial, ?_⟩
  try simp only [st0, wipeP, List.set_cons_zero, List.set_cons_succ, List.map_cons, List.map_nil, List.cons_append, List.nil_append, List.replicate_succ, List.replicate_zero, List.length_cons, List.length_nil, Nat.reduceSub, Nat.reduceAdd]
  have nd := allC_nd 4
  have hlen : (allC 4).length = 256 := allC_len 4
  have fin : ∀ S', S' = put S b (.dct ((allC 4).map cdK) ((allC 4).map fun c => .str (ownOf ms c day))) → Q (.ref b) S' := fun S' e => q _ _ ⟨b, hb, rfl, e⟩
  generalize allC 4 = all at *
  refine forW_acc cdK all (fun pre ρ S' => S' = put S b (.dct (pre.map cdK) (pre.map fun c => .str (ownOf ms c day))) ∧ ρ = [some (.tup (ms.map mvP)), some (.int day), some (.ref b), none, none, none, none, none, none]) ?_ ?_ [] all _ _ rfl ⟨rfl, rfl⟩
  · rintro _ _ ⟨rfl, rfl⟩
    exact ⟨trivial, Out.id (fin _ rfl)⟩
  rintro pre c post e kk hk _ _ ⟨rfl, rfl⟩
  have hc : c ∉ pre := by
    intro h
    rw [← e] at nd
    exact (List.nodup_append.mp nd).2.2 c h c List.mem_cons_self rfl
  have hl : pre.length < 256 := by
    have h2 := congrArg List.length e
    simp only [List.length_append, List.length_cons] at h2
    omega
  have hxl : (pre.map fun c => Pv.str (ownOf ms c day)).length = pre.length := List.length_map _
  have emap : ((pre ++ [c]).map fun c => Pv.str (ownOf ms c day)) = (pre.map fun c => Pv.str (ownOf ms c day)) ++ [.str (ownOf ms c day)] := by rw [List.map_append]; rfl
  have hk : ∀ S', S' = put S b (.dct ((pre ++ [c]).map cdK) ((pre.map fun c => Pv.str (ownOf ms c day)) ++ [.str (ownOf ms c day)])) → kk [some (.tup (ms.map mvP)), some (.int day), some (.ref b), none, none, none, none, none, none] S' := fun S' e => hk _ _ ⟨by rw [e, emap], rfl⟩
  clear emap
  generalize (pre.map fun c => Pv.str (ownOf ms c day)) = xs at hxl hk ⊢
  refine ⟨trivial, ?_⟩
  show (match put S b (.dct (pre.map cdK) xs) b with | some (.dct ks xs) => _ | _ => False)
  rw [put_same]
  refine ⟨rfl, kys_cd _, Nat.lt_of_le_of_lt (show (pre.map cdK).length ≤ 256 by rw [List.length_map]; omega) (by decide), ?_⟩
  rw [show (putD (pre.map cdK) xs (cdK c) (.str "land")) = _ from putD_new (c := c) hc, put_put]
  try simp only [st0, wipeP, List.set_cons_zero, List.set_cons_succ, List.map_cons, List.map_nil, List.cons_append, List.nil_append, List.replicate_succ, List.replicate_zero, List.length_cons, List.length_nil, Nat.reduceSub, Nat.reduceAdd]
  refine forW_acc mvP ms (fun pre2 ρ S' => S' = put S b (.dct ((pre ++ [c]).map cdK) (xs ++ [.str (ownOf pre2 c day)])) ∧ ρ = [some (.tup (ms.map mvP)), some (.int day), some (.ref b), some (cdK c), none, none, none, none, none]) ?_ ?_ [] ms _ _ rfl ⟨rfl, rfl⟩
  · rintro _ _ ⟨rfl, rfl⟩
    exact ⟨trivial, hk _ rfl⟩
  clear hk
  rintro pre2 m post2 e2 k2 hk2 _ _ ⟨rfl, rfl⟩
  have hm := hms m (by rw [← e2]; simp)
  have es := ownOf_snoc pre2 m c day
  have h0 : (decide (m.1 ≤ day) && m.2.1.any fun ds => ds.isPrefixOf c) = false → k2 [some (.tup (ms.map mvP)), some (.int day), some (.ref b), some (cdK c), none, none, none, none, none] (put S b (.dct ((pre ++ [c]).map cdK) (xs ++ [.str (ownOf pre2 c day)]))) := fun z => hk2 _ _ ⟨by
    rw [es]; unfold ownF; rw [z]; rfl, rfl⟩
  refine ⟨trivial, ?_⟩
  try simp only [st0, wipeP, List.set_cons_zero, List.set_cons_succ, List.map_cons, List.map_nil, List.cons_append, List.nil_append, List.replicate_succ, List.replicate_zero, List.length_cons, List.length_nil, Nat.reduceSub, Nat.reduceAdd]
  refine lc_filter m.2.1 (fun ds => .str (cdS ds)) (fun ds => ds.isPrefixOf c) (fun ds => .str (cdS ds)) rfl (Nat.le_trans hm.len (by decide)) (fun _ _ => trivial) (fun ds hds S2 _ => ⟨_, rfl, fun kk hk => ?_, fun _ k hk => hk⟩) ?_
  · have hk : kk (ds.isPrefixOf c) S2 := hk
    rw [← preS_cd] at hk
    exact ⟨rfl, hk⟩
  try simp only [st0, wipeP, List.set_cons_zero, List.set_cons_succ, List.map_cons, List.map_nil, List.cons_append, List.nil_append, List.replicate_succ, List.replicate_zero, List.length_cons, List.length_nil, Nat.reduceSub, Nat.reduceAdd]
  have en : PyData.eqv (toD (.lst ((m.2.1.filter fun ds => ds.isPrefixOf c).map fun ds => Pv.str (cdS ds)))) (.list []) = !m.2.1.any fun ds => ds.isPrefixOf c := by
    show PyData.eqv (.list (toDs _)) (.list []) = _
    rw [eqv_nil, toDs_map, List.isEmpty_map, List.isEmpty_map]
    generalize m.2.1 = l
    induction l with
    | nil => rfl
    | cons c' l ih =>
      rw [List.any_cons, List.filter_cons]
      cases c'.isPrefixOf c with
      | true => rfl
      | false => simpa using ih
  refine cnd_i (b := decide (m.1 ≤ day)) (fun e1 => ?_) (fun e1 => h0 (by rw [e1]; rfl))
  refine ⟨lz rfl, ⟨okD_cdk _ fun ds h => hm.cd ds (List.mem_filter.mp h).1, rfl⟩, ?_⟩
  refine cnd_i (b := !PyData.eqv (toD (.lst ((m.2.1.filter fun ds => ds.isPrefixOf c).map fun ds => Pv.str (cdS ds)))) (.list [])) (fun e2 => ?_) (fun e2 => h0 ?_)
  · rw [en, Bool.not_not] at e2
    show (match put S b (.dct ((pre ++ [c]).map cdK) (xs ++ [.str (ownOf pre2 c day)])) b with | some (.dct ks xs) => _ | _ => False)
    rw [put_same]
    refine ⟨rfl, kys_cd _, Nat.lt_of_le_of_lt (show ((pre ++ [c]).map cdK).length ≤ 256 by rw [List.length_map, List.length_append]; show pre.length + 1 ≤ _; omega) (by decide), ?_⟩
    rw [show (putD ((pre ++ [c]).map cdK) (xs ++ [.str (ownOf pre2 c day)]) (cdK c) (.str m.2.2)) = _ from putD_last (c := c) hxl hc, put_put]
    refine hk2 _ _ ⟨?_, rfl⟩
    rw [es]
    unfold ownF
    rw [e1, e2]
    rfl
  · rw [en, Bool.not_not] at e2
    rw [e1, e2]
    rfl

structure C4 (L : List Cd) : Prop where
  fn : ∀ c ∈ L, c.length = 4 ∧ ∀ d ∈ c, d < 4
  nd : L.Nodup
theorem C4.vd {L : List Cd} (h : C4 L) : ∀ c ∈ L, Vd c := fun c hc => ⟨by rw [(h.fn c hc).1]; decide, (h.fn c hc).2⟩
theorem C4.mg {L : List Cd} (h : C4 L) : Mg (covC L) 4 L := ⟨h.vd, h.nd, fun a ha b hb p => p.eq_of_length (by rw [(h.fn a ha).1, (h.fn b hb).1]), fun _ _ => Iff.rfl, fun b hb q => by
  have := (h.fn _ (q 0 (by decide))).1
  rw [List.length_append, List.length_singleton] at this
  omega⟩
def sp__law_merged : PSp := SpS (fun (L : List Cd) => [.lst (cvs L)]) (fun L _ => C4 L ∧ L.length ≤ 256) fun L S p S' => ∃ M, IsM (covC L) M ∧ p = .tup (cvs M) ∧ S' = S
def b__law_merged : PFS :=
  gSeq (gSet 1 (fN oDictOfT (fCons (fLc (fIt (fVar 0)) (.nm 7) (fYes) (fN oTup (fCons (fVar 7) (fCons (fC (.int 1)) (fNil)))) [7]) (fNil))))
    (gSeq (gBeg [2, 3, 4, 5, 6] (gFor (fIt (fN oTup (fCons (fC (.int 3)) (fCons (fC (.int 2)) (fCons (fC (.int 1)) (fCons (fC (.int 0)) (fNil))))))) (.nm 2) (gEnd [2, 3, 4, 5, 6] (gSeq (gLockD 1 (gSet 3 (fLc (fKeysL (fVar 1)) (.nm 8) (fBV (f2 oEq (fN oLen (fCons (fVar 8) (fNil))) (f2 oAdd (fVar 2) (fC (.int 1))))) (fSl (fVar 8) (fNoPart) (fPart (fVar 2))) [8])))
    (gBeg [4, 5, 6] (gFor (fIt (fN oSortedSet (fCons (fVar 3) (fNil)))) (.nm 4) (gEnd [4, 5, 6] (gSeq (gSet 5 (fLc (fIt (fC (.str "0123"))) (.nm 9) (fYes) (f2 oAdd (fVar 4) (fVar 9)) [9]))
    (gIf (fBV (f2 oEq (fLc (fIt (fVar 5)) (.nm 8) (fBV (f2 (oIn2 true) (fVar 8) (fVar 1))) (fVar 8) [8]) (fN oLst (fNil)))) (gSeq (gLockD 1 (gSet 6 (fLc (fKeysL (fVar 1)) (.nm 8) (fBV (f2 (oIn2 true) (fVar 8) (fVar 5))) (fN oTup (fCons (fVar 8) (fCons (fC (.int 1)) (fNil)))) [8])))
    (gSet 1 (fN oDictOfT (fCons (f2 oAdd (fVar 6) (fN oLst (fCons (fN oTup (fCons (fVar 4) (fCons (fC (.int 1)) (fNil)))) (fNil)))) (fNil))))) (gNext))))))))))
    (gRet (fN oTuple (fCons (fN oSorted (fCons (fN oListD (fCons (fVar 1) (fNil))) (fNil))) (fNil)))))
theorem len__law_merged : ∀ (xs : List Pv) (S : Sto) (Q : QV) (E : QE), sp__law_merged xs S Q E → xs.length = 1 := SpS.len fun _ => rfl
theorem mono__law_merged : ∀ (xs : List Pv) (S : Sto) (Q Q' : QV) (E E' : QE), (∀ p S', Q p S' → Q' p S') → (∀ C S', E C S' → E' C S') → sp__law_merged xs S Q E → sp__law_merged xs S Q' E' := SpS.mono
def ons (L : List Cd) : List Pv := L.map fun _ => .int 1
theorem ons_sc (L : List Cd) : ∀ x ∈ ons L, (scV x).isSome = true := fun x hx => by
  obtain ⟨_, _, rfl⟩ := List.mem_map.mp hx
  rfl
theorem cvs_isDs : ∀ L : List Cd, isDs (cvs L) = true
  | [] => rfl
  | c :: L => by
    show (isD (cdK c) && isDs (cvs L)) = true
    rw [cvs_isDs L]; rfl
theorem cvs_dp (L : List Cd) : ∀ x ∈ cvs L, (toD x).depth ≤ 60 := fun x hx => by
  obtain ⟨_, _, rfl⟩ := List.mem_map.mp hx
  show 0 ≤ 60
  decide
theorem cut_beg {c : Cd} {m : Nat} (h : c.length = m + 1) : cutS (cdS c) none (some ((m : Nat) : Int)) = cdS c.dropLast := by
  have e1 : HT.sIx (cdS c).length 0 none = 0 := rfl
  have e2 : HT.sIx (cdS c).length (cdS c).length (some ((m : Nat) : Int)) = c.length - 1 := by
    show (if ((m : Nat) : Int) < 0 then (((m : Nat) : Int) + ((cdS c).length : Int)).toNat else min ((m : Nat) : Int).toNat (cdS c).length) = _
    rw [if_neg (by omega), cd_len]; omega
  unfold cutS
  rw [e1, e2, List.drop_zero, Nat.sub_zero]
  refine str_ext ?_
  show (c.map (· + 48)).take (c.length - 1) = c.dropLast.map (· + 48)
  rw [← List.map_take, List.dropLast_eq_take]
theorem okD_cds (cs : List Cd) (h : ∀ c ∈ cs, (∀ d ∈ c, d < 4) ∧ c.length ≤ 4) : okD (.lst (cs.map cdK)) = true := by
  have := okD_lstr (ss := cs.map cdS) fun s hs => by
    obtain ⟨ds, hds, rfl⟩ := List.mem_map.mp hs
    exact (codeN_asc (codeN_cd (n := 4) (h ds hds).1 (h ds hds).2 (by decide))).1
  rw [List.map_map] at this
  exact this
theorem okD_str1 (c : Cd) (h : ∀ d ∈ c, d < 4) (hl : c.length ≤ 4) : okD (cdK c) = true := by
  have hf := (codeN_asc (codeN_cd (n := 4) h hl (by decide))).1
  exact okD_of (p := cdK c) rfl hf (by show 0 ≤ 60; decide)
theorem memD_cds (c : Cd) : ∀ cs : List Cd, memD (cdK c) (cs.map cdK) = decide (c ∈ cs)
  | [] => rfl
  | x :: cs => by
    show (PyData.eqv (toD (cdK x)) (toD (cdK c)) || memD (cdK c) (cs.map cdK)) = _
    rw [memD_cds c cs, Bool.eq_iff_iff]
    have : PyData.eqv (toD (cdK x)) (toD (cdK c)) = decide (x = c) := by
      show (cdS x == cdS c) = _
      rw [Bool.eq_iff_iff, beq_iff_eq, decide_eq_true_eq]
      exact ⟨fun z => cd_inj z, fun z => by rw [z]⟩
    rw [this]
    simp only [Bool.or_eq_true, decide_eq_true_eq, List.mem_cons]
    exact ⟨fun z => z.imp Eq.symm id, fun z => z.imp Eq.symm id⟩
theorem eqv_cds (cs : List Cd) : PyData.eqv (toD (.lst (cs.map cdK))) (toD (.lst [])) = cs.isEmpty := by
  cases cs <;> rfl
theorem getK_ons (c : Cd) : ∀ L : List Cd, (getK (cvs L) (ons L) (cdK c)).isSome = decide (c ∈ L)
  | [] => rfl
  | x :: L => by
    show (if kyP (cdK x) = kyP (cdK c) then some (Pv.int 1) else getK (cvs L) (ons L) (cdK c)).isSome = _
    by_cases e : x = c
    · rw [e, if_pos rfl]
      simp
    · rw [if_neg (fun z => e (cd_inj (by injection z with z; injection z)))]
      rw [getK_ons c L]
      simp [Ne.symm e]
def fourL (g : Cd) : List Cd := kidsC.map fun s => g ++ [s]
theorem quad_four {L : List Cd} {g : Cd} : ((fourL g).filter fun c => !decide (c ∈ L)).isEmpty = quadB L g := by
  rw [Bool.eq_iff_iff, quadB_iff, List.isEmpty_iff, List.filter_eq_nil_iff]
  constructor
  · intro h s hs
    have := h (g ++ [s]) (List.mem_map.mpr ⟨s, lt_kid hs, rfl⟩)
    simpa using this
  · intro h c hc
    obtain ⟨s, hs, rfl⟩ := List.mem_map.mp hc
    simpa using h s (kid_lt hs)
def fusL (g : Cd) (L : List Cd) : List Cd := (L.filter fun c => !decide (c ∈ fourL g)) ++ [g]
theorem fus_mem {g : Cd} {L : List Cd} (c : Cd) : c ∈ fusL g L ↔ (c ∈ L ∧ ∀ s, s < 4 → c ≠ g ++ [s]) ∨ c = g := by
  unfold fusL
  rw [List.mem_append, List.mem_singleton, List.mem_filter]
  refine or_congr (and_congr Iff.rfl ?_) Iff.rfl
  rw [Bool.not_eq_true', decide_eq_false_iff_not]
  exact ⟨fun h s hs e => h (List.mem_map.mpr ⟨s, lt_kid hs, e.symm⟩), fun h z => by
    obtain ⟨s, hs, e⟩ := List.mem_map.mp z
    exact h s (kid_lt hs) e.symm⟩
theorem fus_nd {g : Cd} {L : List Cd} (nd : L.Nodup) (h : g ∉ L) : (fusL g L).Nodup := by
  unfold fusL
  refine List.nodup_append.mpr ⟨nd.sublist List.filter_sublist, (by simp), fun a ha b hb => ?_⟩
  rw [List.mem_singleton.mp hb]
  rintro rfl
  exact h (List.mem_filter.mp ha).1
theorem cvs_nd1 {L : List Cd} (h : L.Nodup) : (cvs L).Nodup := List.Pairwise.map cdK (fun a b ne e => ne (cd_inj (Pv.str.inj e))) h
theorem dict_ons {J : List Cd} {Q : QV} {S : Sto} (nd : J.Nodup) (q : ∀ a, S a = none → Q (.ref a) (put S a (.dct (cvs J) (ons J)))) : oDictOfT [.lst (J.map fun c => .tup [cdK c, .int 1])] S Q := by
  show ∃ ts : List (Pv × Pv), _ ∧ _
  refine ⟨J.map fun c => (cdK c, .int 1), by rw [List.map_map]; rfl, fun t ht => ?_, ?_, ?_⟩
  · obtain ⟨c, _, rfl⟩ := List.mem_map.mp ht
    rfl
  · rw [List.map_map]
    exact cvs_nd1 nd
  · rw [List.map_map, List.map_map]
    exact q
theorem ex__law_merged {xs : List Pv} {S0 : Sto} {Q : QV} {Ep : QE} : sp__law_merged xs S0 Q Ep → b__law_merged (endD Q) (st0 10 xs) S0 := SpS.ex fun L S Q ⟨hL, hl⟩ q => by
  have q : ∀ p S', (∃ M, IsM (covC L) M ∧ p = .tup (cvs M) ∧ S' = S) → Q p S' := q
  conv => whnf
  refine lc_map L cdK (fun c => .tup [cdK c, .int 1]) rfl (Nat.le_trans hl (by decide)) (fun _ _ => trivial) (fun c hc S2 _ => ⟨_, rfl, fun k hk => ⟨lz rfl, hk⟩⟩) ?_
  simp only [fNil]
  refine dict_ons hL.nd fun D hD => ?_
  try simp only [st0, wipeP, List.set_cons_zero, List.set_cons_succ, List.map_cons, List.map_nil, List.cons_append, List.nil_append, List.replicate_succ, List.replicate_zero, List.length_cons, List.length_nil, Nat.reduceSub, Nat.reduceAdd]
  conv => whnf
  refine ⟨lz rfl, ?_⟩
  show forW _ _ _ _ (([3, 2, 1, 0] : List Nat).map fun m => .int (m : Nat)) _ _
  refine forW_acc (fun m : Nat => .int (m : Nat)) [3, 2, 1, 0] (fun pre ρ S' => ∃ D L', ρ = [some (.lst (cvs L)), some (.ref D), none, none, none, none, none, none, none, none] ∧ S' D = some (.dct (cvs L') (ons L')) ∧ Has S S' ∧ S D = none ∧ Mg (covC L) (4 - pre.length) L' ∧ (∀ c ∈ L', c.length ≤ 4) ∧ L'.length ≤ 256) ?_ ?_ [] [3, 2, 1, 0] _ _ rfl ⟨D, L, rfl, put_same, has_put hD, hD, hL.mg, fun c hc => by rw [(hL.fn c hc).1]; exact Nat.le_refl _, hl⟩
  · rintro _ S' ⟨D, L', rfl, hS', hs, hD, hm, h4, hl'⟩
    refine ⟨trivial, ?_⟩
    conv => whnf
    rw [show dcP S' (.ref D) = some (cvs L', ons L') by simp [dcP, hS']]
    refine ⟨⟨cvs_isDs _, (alike_cvs _).1, (alike_cvs _).2, cvs_dp _⟩, ?_⟩
    rw [sort_cvs]
    exact Out.less hs (q _ _ ⟨sortC L', hm.isM, rfl, rfl⟩)
  rintro pre m post e kk hk _ S' ⟨D, L', rfl, hS', hs, hD, hm, h4, hl'⟩
  have hpm : 4 - pre.length = m + 1 ∧ m < 4 := by
    have hk := congrArg (fun l => l[pre.length]?) e
    have hl := congrArg List.length e
    simp only [List.length_append, List.length_cons, List.length_nil] at hl
    simp only [List.getElem?_append_right (Nat.le_refl _), Nat.sub_self, List.getElem?_cons_zero] at hk
    have : pre.length = 0 ∨ pre.length = 1 ∨ pre.length = 2 ∨ pre.length = 3 := by omega
    rcases this with z | z | z | z <;> rw [z] at hk ⊢ <;> (injection hk with hk; subst hk; decide)
  have hk : ∀ S2 D2 L2, S2 D2 = some (.dct (cvs L2) (ons L2)) → Has S S2 → S D2 = none → Mg (covC L) m L2 → (∀ c ∈ L2, c.length ≤ 4) → L2.length ≤ 256 → kk [some (.lst (cvs L)), some (.ref D2), none, none, none, none, none, none, none, none] S2 := fun S2 D2 L2 h1 h2 h3 h5 h6 h7 => hk _ _ ⟨D2, L2, rfl, h1, h2, h3, by rw [List.length_append, List.length_singleton, show 4 - (pre.length + 1) = m by omega]; exact h5, h6, h7⟩
  rw [hpm.1] at hm
  have hm4 := hpm.2
  clear e hpm
  refine ⟨trivial, ?_⟩
  try simp only [st0, wipeP, List.set_cons_zero, List.set_cons_succ, List.map_cons, List.map_nil, List.cons_append, List.nil_append, List.replicate_succ, List.replicate_zero, List.length_cons, List.length_nil, Nat.reduceSub, Nat.reduceAdd]
  conv => whnf
  rw [hS']
  dsimp only
  refine ⟨ky_cvs L', ons_sc L', fun o kvs hkv _ => ?_⟩
  conv => whnf
  rw [put_same]
  dsimp only
  refine lc_filter L' cdK (fun c => decide (c.length = m + 1)) (fun c => cdK c.dropLast) hkv (Nat.le_trans hl' (by decide)) (fun S2 h2 => h2 _ _ put_same) (fun c hc S2 hS2 => ⟨_, rfl, fun k2 hk2 => ?_, fun hc2 k2 hk2 => ?_⟩) ?_
  · conv => whnf
    rw [show lenP _ (cdK c) = some c.length from len_cd (Nat.le_trans (h4 c hc) (by decide))]
    show k2 (decide (((c.length : Nat) : Int) = ((m : Nat) : Int) + 1)) _
    rw [show decide (((c.length : Nat) : Int) = ((m : Nat) : Int) + 1) = decide (c.length = m + 1) from decide_eq_decide.mpr (by omega)]
    exact hk2
  · have hc3 := of_decide_eq_true hc2
    conv => whnf
    refine ⟨by rw [cd_len]; exact Nat.le_trans (h4 c hc) (by decide), ?_⟩
    show k2 (.str (cutS (cdS c) none (some ((m : Nat) : Int)))) _
    rw [cut_beg hc3]
    exact hk2
  refine ⟨put_same, ?_⟩
  rw [put_put]
  generalize hS3 : put S' D (.dct (cvs L') (ons L')) = S3
  have h3 : S3 D = some (.dct (cvs L') (ons L')) := by rw [← hS3, put_same]
  have h3s : Has S S3 := fun b n hb => by rw [← hS3, put_ne (fun z => by rw [z, hD] at hb; cases hb)]; exact hs b n hb
  clear hS3 hS' hs
  try simp only [st0, wipeP, List.set_cons_zero, List.set_cons_succ, List.map_cons, List.map_nil, List.cons_append, List.nil_append, List.replicate_succ, List.replicate_zero, List.length_cons, List.length_nil, Nat.reduceSub, Nat.reduceAdd]
  conv => whnf
  rw [show (L'.filter fun c => decide (c.length = m + 1)).map (fun c => cdK c.dropLast) = cvs (begsC L' (m + 1)) by unfold begsC cvs; rw [List.map_map]; rfl]
  refine ⟨⟨⟨false, fun x hx => ?_⟩, cvs (allC m), ?_, fun x hx => ?_⟩, (alike_cvs _).1, (alike_cvs _).2, fun ys hys => ?_⟩
  · obtain ⟨_, _, rfl⟩ := List.mem_map.mp hx
    rfl
  · show ((allC m).map cdK).length < 75
    rw [List.length_map, allC_len]
    have : m = 0 ∨ m = 1 ∨ m = 2 ∨ m = 3 := by omega
    rcases this with rfl | rfl | rfl | rfl <;> decide
  · obtain ⟨b, hb, rfl⟩ := List.mem_map.mp hx
    obtain ⟨c, hc, hcl, rfl⟩ := begs_mem.mp hb
    exact List.mem_map.mpr ⟨_, (allC_mem m _).mpr ⟨by rw [List.length_dropLast, hcl]; rfl, fun d hd => (hm.vd c hc).2 d (List.dropLast_subset c hd)⟩, rfl⟩
  obtain ⟨B, rfl, ndB, hB⟩ := set_cds hys
  rw [sort_cvs]
  show forW _ _ _ _ (cvs (sortC B)) _ _
  have hlB : ∀ x ∈ sortC B, x.length + 1 = m + 1 := fun x hx => by
    obtain ⟨c, _, hl, rfl⟩ := begs_mem.mp ((hB x).mp (sortC_mem.mp hx))
    rw [List.length_dropLast, hl]; rfl
  generalize cvs (begsC L' (m + 1)) = HD
  try simp only [st0, wipeP, List.set_cons_zero, List.set_cons_succ, List.map_cons, List.map_nil, List.cons_append, List.nil_append, List.replicate_succ, List.replicate_zero, List.length_cons, List.length_nil, Nat.reduceSub, Nat.reduceAdd]
  refine forW_acc cdK (sortC B) (fun done ρ S2 => ∃ D2 L2, ρ = [some (.lst (cvs L)), some (.ref D2), some (.int (m : Nat)), some (.lst HD), none, none, none, none, none, none] ∧ S2 D2 = some (.dct (cvs L2) (ons L2)) ∧ Has S S2 ∧ S D2 = none ∧ Mi (covC L) (m + 1) L' done L2 ∧ (∀ c ∈ L2, c.length ≤ 4) ∧ L2.length ≤ 256) ?_ ?_ [] (sortC B) _ _ rfl ⟨D, L', rfl, h3, h3s, hD, Mi.begin hm, h4, hl'⟩
  · rintro _ S4 ⟨D2, L2, rfl, h5, h6, h7, hmi, h8, h9⟩
    refine ⟨trivial, ?_⟩
    try simp only [st0, wipeP, List.set_cons_zero, List.set_cons_succ, List.map_cons, List.map_nil, List.cons_append, List.nil_append, List.replicate_succ, List.replicate_zero, List.length_cons, List.length_nil, Nat.reduceSub, Nat.reduceAdd]
    exact hk S4 D2 L2 h5 h6 h7 (hmi.fin fun c hc hl => sortC_mem.mpr ((hB _).mpr (begs_mem.mpr ⟨c, hc, hl, rfl⟩))) h8 h9
  rintro done g post e kk2 hk2 _ S4 ⟨D2, L2, rfl, h5, h6, h7, hmi, h8, h9⟩
  have hg : g ∈ sortC B := by rw [← e]; simp
  have hgl := hlB g hg
  refine ⟨trivial, ?_⟩
  try simp only [st0, wipeP, List.set_cons_zero, List.set_cons_succ, List.map_cons, List.map_nil, List.cons_append, List.nil_append, List.replicate_succ, List.replicate_zero, List.length_cons, List.length_nil, Nat.reduceSub, Nat.reduceAdd]
  conv => whnf
  refine lc_map kidsC fg (fun s => cdK (g ++ [s])) fig_chars (by decide) (fun _ _ => trivial) (fun s hs S5 hS => ⟨_, rfl, fun k3 hk3 => ?_⟩) ?_
  · conv => whnf
    refine ⟨by rw [cd_len]; exact Nat.le_trans (show g.length + 1 ≤ 4 by omega) (by decide), ?_⟩
    rw [cd_kid]
    exact hk3
  try simp only [st0, wipeP, List.set_cons_zero, List.set_cons_succ, List.map_cons, List.map_nil, List.cons_append, List.nil_append, List.replicate_succ, List.replicate_zero, List.length_cons, List.length_nil, Nat.reduceSub, Nat.reduceAdd]
  conv => whnf
  refine lc_filter (fourL g) cdK (fun c => !decide (c ∈ L2)) cdK (by unfold fourL; rw [List.map_map]; rfl) (lz rfl) (fun _ _ => trivial) (fun c hc S5 hS => ⟨_, rfl, fun k3 hk3 => ?_, fun _ k3 hk3 => hk3⟩) ?_
  · have hs5 : S5 D2 = some (.dct (cvs L2) (ons L2)) := hS _ _ h5
    conv => whnf
    rw [show dcP S5 (.ref D2) = some (cvs L2, ons L2) by simp [dcP, hs5]]
    refine ⟨rfl, ky_cvs L2, ?_⟩
    show k3 (!(getK (cvs L2) (ons L2) (cdK c)).isSome) S5
    rw [getK_ons]
    exact hk3
  have hfv : ∀ c ∈ fourL g, (∀ d ∈ c, d < 4) ∧ c.length ≤ 4 := fun c hc => by
    obtain ⟨s, hs, rfl⟩ := List.mem_map.mp hc
    have hgv : ∀ d ∈ g, d < 4 := by
      obtain ⟨c, hc, _, e2⟩ := begs_mem.mp ((hB g).mp (sortC_mem.mp hg))
      rw [e2]
      exact fun d hd => (hm.vd c hc).2 d (List.dropLast_subset c hd)
    refine ⟨fun d hd => ?_, by rw [List.length_append, List.length_singleton]; omega⟩
    rcases List.mem_append.mp hd with z | z
    · exact hgv d z
    · rw [List.mem_singleton.mp z]; exact kid_lt hs
  conv => whnf
  refine ⟨lz rfl, ?_⟩
  conv => whnf
  refine ⟨⟨okD_cds _ (fun c hc => hfv c (List.mem_filter.mp hc).1), rfl⟩, ?_⟩
  dsimp only
  rw [show PyData.eqv (toD (top S4 (.lst (((fourL g).filter fun c => !decide (c ∈ L2)).map cdK)))) (toD (top S4 (.lst []))) = quadB L2 g from (eqv_cds _).trans quad_four]
  refine cnd_i (b := quadB L2 g) (fun e3 => ?_) (fun e3 => ?_)
  · have hq := quadB_iff.mp e3
    conv => whnf
    rw [h5]
    dsimp only
    refine ⟨ky_cvs L2, ons_sc L2, fun o kvs hkv _ => ?_⟩
    conv => whnf
    rw [put_same]
    dsimp only
    refine lc_filter L2 cdK (fun c => !decide (c ∈ fourL g)) (fun c => .tup [cdK c, .int 1]) hkv (Nat.le_trans h9 (by decide)) (fun S5 h => h _ _ put_same) (fun c hc S5 hS5 => ⟨_, rfl, fun k3 hk3 => ?_, fun _ k3 hk3 => ⟨lz rfl, hk3⟩⟩) ?_
    · conv => whnf
      refine ⟨⟨okD_str1 _ (hmi.mg.vd c hc).2 (h8 c hc), okD_cds _ hfv⟩, ?_⟩
      show k3 (!memD (cdK c) ((fourL g).map cdK)) S5
      rw [memD_cds]
      exact hk3
    refine ⟨put_same, ?_⟩
    rw [put_put]
    generalize hS6 : put S4 D2 (.dct (cvs L2) (ons L2)) = S6
    have h6s : Has S S6 := fun b n hb => by rw [← hS6, put_ne (fun z => by rw [z, h7] at hb; cases hb)]; exact h6 b n hb
    clear hS6
    try simp only [st0, wipeP, List.set_cons_zero, List.set_cons_succ, List.map_cons, List.map_nil, List.cons_append, List.nil_append, List.replicate_succ, List.replicate_zero, List.length_cons, List.length_nil, Nat.reduceSub, Nat.reduceAdd]
    conv => whnf
    refine ⟨lz rfl, ?_⟩
    conv => whnf
    refine ⟨lz rfl, ?_⟩
    conv => whnf
    have ng : g ∉ L2 := fun z => by
      have := congrArg List.length (hmi.mg.anti g z _ (hq 0 (by decide)) (List.prefix_append g [0]))
      rw [List.length_append, List.length_singleton] at this
      omega
    have hfl : (L2.filter fun c => !decide (c ∈ fourL g)).length < 256 := by
      refine Nat.lt_of_lt_of_le (List.length_filter_lt_length_iff_exists.mpr ⟨g ++ [0], hq 0 (by decide), ?_⟩) h9
      have : g ++ [0] ∈ fourL g := List.mem_map.mpr ⟨0, by decide, rfl⟩
      simp [this]
    have hl3 : (fusL g L2).length ≤ 256 := by
      unfold fusL
      rw [List.length_append, List.length_singleton]
      omega
    refine ⟨by rw [List.length_map]; exact Nat.le_trans (show _ + 1 ≤ 256 from hfl) (by decide), ?_⟩
    simp only [fNil]
    rw [show ((L2.filter fun c => !decide (c ∈ fourL g)).map fun c => Pv.tup [cdK c, .int 1]) ++ [.tup [cdK g, .int 1]] = (fusL g L2).map fun c => .tup [cdK c, .int 1] by unfold fusL; rw [List.map_append]; rfl]
    refine dict_ons (fus_nd hmi.mg.nd ng) fun E hE => ?_
    have hSE : S E = none := by
      cases q : S E with
      | none => rfl
      | some n => rw [h6s E n q] at hE; cases hE
    refine hk2 _ _ ⟨E, fusL g L2, rfl, put_same, fun b n hb => ?_, hSE, hmi.step (fun x hx => hlB x (by rw [← e]; simp [hx])) hgl hq fus_mem (fus_nd hmi.mg.nd ng), fun c hc => ?_, hl3⟩
    · rw [put_ne (fun z => by rw [z, hSE] at hb; cases hb)]
      exact h6s b n hb
    · rcases (fus_mem c).mp hc with z | z
      · exact h8 c z.1
      · rw [z]; omega
  · exact hk2 _ _ ⟨D2, L2, rfl, h5, h6, h7, hmi.skip (fun z => by rw [quadB_iff.mpr z] at e3; exact absurd e3 (by decide)), h8, h9⟩

def sp__law_due : PSp := SpS (fun (a : List Mv × Int × Int) => [.tup (a.1.map mvP), .int a.2.1, .int a.2.2]) (fun a _ => ∀ m ∈ a.1, MvT m) fun a S p S' => ∃ ps, PrsI a.1 a.2.1 a.2.2 celAll ps ∧ p = .lst (sortP ((chgL a.1 a.2.1 a.2.2 ps).map trP)) ∧ S' = S
def b__law_due (w : World) : PFS :=
  gSeq (gPar3 3 4 5 (fCons (fCall sp__law_owners [] noE (fCons (fVar 0) (fCons (fVar 1) (fNil)))) (fCons (fCall sp__law_owners [] noE (fCons (fVar 0) (fCons (fVar 2) (fNil)))) (fCons (fDictW w) (fNil)))))
    (gSeq (gLockD 3 (gBeg [6, 7] (gFor (fKeysL (fVar 3)) (.nm 6) (gEnd [6, 7] (gIf (fBV (f2 oNe (f2 oDGetL (fVar 3) (fVar 6)) (f2 oDGet (fVar 4) (fVar 6)))) (gSeq (gSet 7 (fN oTup (fCons (f2 oDGetL (fVar 3) (fVar 6)) (fCons (f2 oDGet (fVar 4) (fVar 6)) (fNil)))))
    (gPutW w (f2 oAdd (fWGet2 w (fVar 5) (fVar 7) (fN oLst (fNil))) (fN oLst (fCons (fVar 6) (fNil)))) (fVar 5) (fVar 7))) (gNext))))))
    (gSeq (gSet 8 (fN oLst (fNil)))
    (gSeq (gBeg [7] (gFor (fKeysW w (fVar 5)) (.nm 7) (gEnd [7] (gSet 8 (f2 oAdd (fVar 8) (fLc (fIt (fCall sp__law_merged [] noE (fCons (f2 (oWGet w) (fVar 5) (fVar 7)) (fNil)))) (.nm 9) (fYes) (f2 oAdd (fN oTup (fCons (fVar 9) (fNil))) (fVar 7)) [9]))))))
    (gRet (fN oSorted (fCons (fVar 8) (fNil)))))))
theorem len__law_due : ∀ (xs : List Pv) (S : Sto) (Q : QV) (E : QE), sp__law_due xs S Q E → xs.length = 3 := SpS.len fun _ => rfl
theorem mono__law_due : ∀ (xs : List Pv) (S : Sto) (Q Q' : QV) (E E' : QE), (∀ p S', Q p S' → Q' p S') → (∀ C S', E C S' → E' C S') → sp__law_due xs S Q E → sp__law_due xs S Q' E' := SpS.mono
set_option maxHeartbeats 2000000 in
theorem ex__law_due {w : World} {xs : List Pv} {S0 : Sto} {Q : QV} {Ep : QE} : sp__law_due xs S0 Q Ep → b__law_due w (endD Q) (st0 10 xs) S0 := SpS.ex fun ⟨ms, d1, d2⟩ S Q hm q => by
  have hm : ∀ m ∈ ms, MvT m := hm
  have hcd : ∀ m ∈ ms, CdOk m.2.1 := fun m h => (hm m h).cd
  have q : ∀ p S', (∃ ps, PrsI ms d1 d2 celAll ps ∧ p = .lst (sortP ((chgL ms d1 d2 ps).map trP)) ∧ S' = S) → Q p S' := q
  refine ⟨(ms, d1), rfl, hm, ?_⟩
  rintro _ S1 ⟨A, hA, rfl, rfl⟩
  refine ⟨(ms, d2), rfl, hm, ?_⟩
  rintro _ S2 ⟨B, hB, rfl, rfl⟩
  intro t ht
  have hAB : A ≠ B := fun z => by rw [← z, put_same] at hB; cases hB
  have hAt : A ≠ t := fun z => by rw [← z, put_ne hAB, put_same] at ht; cases ht
  have hBt : B ≠ t := fun z => by rw [← z, put_same] at ht; cases ht
  have hSt : S t = none := by
    have h := ht
    rw [put_ne (Ne.symm hBt), put_ne (Ne.symm hAt)] at h
    exact h
  have hSB : S B = none := by
    have h := hB
    rw [put_ne (Ne.symm hAB)] at h
    exact h
  have isd : ∀ {ps}, PrsD (fun c => ownOf ms c d1) (fun c => ownOf ms c d2) (allC 4) ps → PrsI ms d1 d2 celAll ps := fun h => h.toI hcd
  have ism : ∀ {p M}, IsM (covC (clsD (fun c => ownOf ms c d1) (fun c => ownOf ms c d2) (allC 4) p)) M → M = cofC 6 (fun c => decide (c ∈ clsC ms d1 d2 celAll p)) [] := fun h => cls_isM hcd h
  have hlen : (allC 4).length = 256 := allC_len 4
  have hnd := allC_nd 4
  have hfn : ∀ c ∈ allC 4, c.length = 4 ∧ ∀ d ∈ c, d < 4 := fun c hc => (allC_mem 4 c).mp hc
  have hA3 : (put (put (put S A (.dct ((allC 4).map cdK) ((allC 4).map fun c => .str (ownOf ms c d1)))) B (.dct ((allC 4).map cdK) ((allC 4).map fun c => .str (ownOf ms c d2)))) t (nwM w t [] [])) A = some (.dct ((allC 4).map cdK) ((allC 4).map fun c => .str (ownOf ms c d1))) := by rw [put_ne hAt, put_ne hAB, put_same]
  have hB3 : (put (put (put S A (.dct ((allC 4).map cdK) ((allC 4).map fun c => .str (ownOf ms c d1)))) B (.dct ((allC 4).map cdK) ((allC 4).map fun c => .str (ownOf ms c d2)))) t (nwM w t [] [])) B = some (.dct ((allC 4).map cdK) ((allC 4).map fun c => .str (ownOf ms c d2))) := by rw [put_ne hBt, put_same]
  have ht3 : (put (put (put S A (.dct ((allC 4).map cdK) ((allC 4).map fun c => .str (ownOf ms c d1)))) B (.dct ((allC 4).map cdK) ((allC 4).map fun c => .str (ownOf ms c d2)))) t (nwM w t [] [])) t = some (nwM w t [] []) := put_same
  have hs3 : Has S (put (put (put S A (.dct ((allC 4).map cdK) ((allC 4).map fun c => .str (ownOf ms c d1)))) B (.dct ((allC 4).map cdK) ((allC 4).map fun c => .str (ownOf ms c d2)))) t (nwM w t [] [])) := fun b n hb => by
    rw [put_ne (fun z => by rw [z, hSt] at hb; cases hb), put_ne (fun z => by rw [z, hSB] at hb; cases hb), put_ne (fun z => by rw [z, hA] at hb; cases hb)]
    exact hb
  simp only [fNil]
  generalize (put (put (put S A (.dct ((allC 4).map cdK) ((allC 4).map fun c => .str (ownOf (ms, d1).1 c (ms, d1).2)))) B (.dct ((allC 4).map cdK) ((allC 4).map fun c => .str (ownOf (ms, d2).1 c (ms, d2).2)))) t (nwM w t [] [])) = S3 at hA3 hB3 ht3 hs3 ⊢
  have e1 : (fun c => Pv.str (ownOf ms c d1)) = fun c => Pv.str ((fun c => ownOf ms c d1) c) := rfl
  have e2 : (fun c => Pv.str (ownOf ms c d2)) = fun c => Pv.str ((fun c => ownOf ms c d2) c) := rfl
  rw [e1] at hA3
  rw [e2] at hB3
  clear e1 e2 hA hB ht hSB
  generalize (fun c => ownOf ms c d1) = F1 at isd ism hA3 ⊢
  generalize (fun c => ownOf ms c d2) = F2 at isd ism hB3 ⊢
  try simp only [st0, wipeP, List.set_cons_zero, List.set_cons_succ, List.map_cons, List.map_nil, List.cons_append, List.nil_append, List.replicate_succ, List.replicate_zero, List.length_cons, List.length_nil, Nat.reduceSub, Nat.reduceAdd]
  conv => whnf
  rw [hA3]
  refine ⟨fun z hz => ?_, fun x hx => ?_, fun o kvs hk hv => ?_⟩
  · obtain ⟨c, _, rfl⟩ := List.mem_map.mp hz
    rfl
  · obtain ⟨c, _, rfl⟩ := List.mem_map.mp hx
    rfl
  have hkv := kvs_cds (f := F1) (allC 4) kvs hk hv
  subst hkv
  try simp only [st0, wipeP, List.set_cons_zero, List.set_cons_succ, List.map_cons, List.map_nil, List.cons_append, List.nil_append, List.replicate_succ, List.replicate_zero, List.length_cons, List.length_nil, Nat.reduceSub, Nat.reduceAdd]
  conv => whnf
  rw [put_same]
  dsimp only
  have ekeys : (((allC 4).map fun c => ((Sum.inr (cdS c) : Key), V.str (F1 c))).map fun kv => kPv kv.1) = (allC 4).map cdK := by rw [List.map_map]; rfl
  rw [ekeys]
  generalize hmk : ((allC 4).map fun c => ((Sum.inr (cdS c) : Key), V.str (F1 c))) = kvs
  have hval : ∀ d ∈ allC 4, valV kvs (Sum.inr (cdS d)) = some (.str (F1 d)) := fun d hd => by rw [← hmk]; exact valV_cds hd
  clear hmk hk hv ekeys
  refine forW_acc cdK (allC 4) (fun pre ρ S' => ρ = [some (.tup (ms.map mvP)), some (.int d1), some (.int d2), some (.ref A), some (.ref B), some (.ref t), none, none, none, none] ∧ ∃ ps, PrsD F1 F2 pre ps ∧ S' = put (put S3 A (.lck o kvs)) t (nwM w t (ps.map prP) (ps.map fun p => .lst (cvs (clsD F1 F2 pre p))))) ?_ ?_ [] (allC 4) _ _ rfl ⟨rfl, [], PrsD.nil, ?_⟩
  · rintro _ _ ⟨rfl, ps, hps, rfl⟩
    refine ⟨by rw [put_ne hAt]; exact put_same, by rw [put_ne hAt]; exact put_same, ?_⟩
    have h4t : (put (put (put S3 A (.lck o kvs)) t (nwM w t (ps.map prP) (ps.map fun p => .lst (cvs (clsD F1 F2 (allC 4) p))))) A (.dct ((allC 4).map cdK) ((allC 4).map fun c => .str (F1 c)))) t = some (nwM w t (ps.map prP) (ps.map fun p => .lst (cvs (clsD F1 F2 (allC 4) p)))) := by
      rw [put_ne (Ne.symm hAt)]; exact put_same
    have h4s : Has S (put (put (put S3 A (.lck o kvs)) t (nwM w t (ps.map prP) (ps.map fun p => .lst (cvs (clsD F1 F2 (allC 4) p))))) A (.dct ((allC 4).map cdK) ((allC 4).map fun c => .str (F1 c)))) := fun b n hb => by
      have hbt : b ≠ t := fun z => by rw [z, hSt] at hb; cases hb
      by_cases z : b = A
      · rw [z, put_same, ← hA3, ← hs3 b n hb, z]
      · rw [put_ne z, put_ne hbt, put_ne z]
        exact hs3 b n hb
    generalize (put (put (put S3 A (.lck o kvs)) t (nwM w t (ps.map prP) (ps.map fun p => .lst (cvs (clsD F1 F2 (allC 4) p))))) A (.dct ((allC 4).map cdK) ((allC 4).map fun c => .str (F1 c)))) = S4 at h4t h4s ⊢
    have hpl : ps.length ≤ 256 := by rw [← hlen]; exact hps.len
    try simp only [st0, wipeP, List.set_cons_zero, List.set_cons_succ, List.map_cons, List.map_nil, List.cons_append, List.nil_append, List.replicate_succ, List.replicate_zero, List.length_cons, List.length_nil, Nat.reduceSub, Nat.reduceAdd]
    refine ⟨lz rfl, ?_⟩
    try simp only [st0, wipeP, List.set_cons_zero, List.set_cons_succ, List.map_cons, List.map_nil, List.cons_append, List.nil_append, List.replicate_succ, List.replicate_zero, List.length_cons, List.length_nil, Nat.reduceSub, Nat.reduceAdd]
    have kT : keysT (ps.map prP) := fun z hz => by
      obtain ⟨x, _, rfl⟩ := List.mem_map.mp hz
      exact kOk_pr _
    refine ⟨t, _, _, rfl, kT, by rw [List.length_map, List.length_map], .inl ⟨h4t, fun o2 vs us => ?_⟩⟩
    refine forW_acc prP ps (fun done ρ S' => ρ = [some (.tup (ms.map mvP)), some (.int d1), some (.int d2), some (.ref A), some (.ref B), some (.ref t), none, none, some (.lst ((chgL ms d1 d2 done).map trP)), none] ∧ S' = put S4 t (nwF w o2 t vs us (ps.map prP) (ps.map fun p => .lst (cvs (clsD F1 F2 (allC 4) p))))) ?_ ?_ [] ps _ _ rfl ⟨rfl, rfl⟩
    · rintro _ _ ⟨rfl, rfl⟩
      refine ⟨put_same, tr_sortOk _, ?_⟩
      refine Out.less (fun z m hz => ?_) (q _ _ ⟨ps, isd hps, rfl, rfl⟩)
      rw [put_ne (fun e => by rw [e, hSt] at hz; cases hz)]
      exact h4s z m hz
    rintro done p post e kk hk _ _ ⟨rfl, rfl⟩
    have hp : p ∈ ps := by rw [← e]; simp
    refine ⟨put_same, ?_⟩
    try simp only [st0, wipeP, List.set_cons_zero, List.set_cons_succ, List.map_cons, List.map_nil, List.cons_append, List.nil_append, List.replicate_succ, List.replicate_zero, List.length_cons, List.length_nil, Nat.reduceSub, Nat.reduceAdd]
    refine ⟨t, _, _, .lst (cvs (clsD F1 F2 (allC 4) p)), rfl, .inr ⟨o2, vs, us, put_same⟩, kT, by rw [List.length_map, List.length_map], kOk_pr p, by rw [getN_prs, if_pos hp], ?_⟩
    refine ⟨clsD F1 F2 (allC 4) p, rfl, ⟨⟨fun c hc => hfn c (List.mem_filter.mp hc).1, hnd.sublist List.filter_sublist⟩, by rw [← hlen]; exact List.length_filter_le _ _⟩, ?_⟩
    rintro _ _ ⟨M, hM, rfl, rfl⟩
    obtain rfl := ism hM
    have hdl : done.length ≤ 255 := by
      have := congrArg List.length e
      rw [List.length_append, List.length_cons] at this
      omega
    have hcl := chg_len ms d1 d2 done
    have hml := cof_len 6 (fun c => decide (c ∈ clsC ms d1 d2 celAll p)) []
    have e45 : 4 ^ (6 - 1) = 1024 := by decide
    have hk2 := hk _ _ ⟨rfl, rfl⟩
    rw [chg_snoc, List.map_append, List.map_map] at hk2
    show ∀ D, _ = none → lcW _ _ _ _ _ D _ (cvs _) _ _
    refine lc_map (cofC 6 (fun c => decide (c ∈ clsC ms d1 d2 celAll p)) []) cdK (fun d => trP (d, p)) rfl (Nat.le_trans hml (by decide)) (fun _ _ => trivial) (fun d hd S5 _ => ⟨_, rfl, fun k3 hk3 => ?_⟩) ?_
    · try simp only [st0, wipeP, List.set_cons_zero, List.set_cons_succ, List.map_cons, List.map_nil, List.cons_append, List.nil_append, List.replicate_succ, List.replicate_zero, List.length_cons, List.length_nil, Nat.reduceSub, Nat.reduceAdd]
      refine ⟨lz rfl, ?_⟩
      exact ⟨(by decide : 1 + 2 ≤ sizeLine), hk3⟩
    try simp only [st0, wipeP, List.set_cons_zero, List.set_cons_succ, List.map_cons, List.map_nil, List.cons_append, List.nil_append, List.replicate_succ, List.replicate_zero, List.length_cons, List.length_nil, Nat.reduceSub, Nat.reduceAdd]
    conv => whnf
    refine ⟨by rw [List.length_map, List.length_map]; exact Nat.le_trans (show _ ≤ 300000 by omega) (by decide), ?_⟩
    exact hk2
  · rintro pre c post e kk hk _ _ ⟨rfl, ps, hps, rfl⟩
    have hc : c ∈ allC 4 := by rw [← e]; simp
    have hpl : ps.length ≤ 256 := by
      have h1 := hps.len
      have := congrArg List.length e
      rw [List.length_append, hlen] at this
      omega
    have hA5 : ∀ X, put (put S3 A (.lck o kvs)) t X A = some (.lck o kvs) := fun X => by rw [put_ne hAt]; exact put_same
    have hB5 : ∀ X, dcP (put (put S3 A (.lck o kvs)) t X) (.ref B) = some ((allC 4).map cdK, (allC 4).map fun c => .str (F2 c)) := fun X => by
      have : put (put S3 A (.lck o kvs)) t X B = some (.dct ((allC 4).map cdK) ((allC 4).map fun c => .str (F2 c))) := by
        rw [put_ne hBt, put_ne (Ne.symm hAB)]; exact hB3
      simp [dcP, this]
    have kys : kysOk ((allC 4).map cdK) := fun z hz => by
      obtain ⟨c, _, rfl⟩ := List.mem_map.mp hz
      rfl
    refine ⟨hA5 _, ?_⟩
    try simp only [st0, wipeP, List.set_cons_zero, List.set_cons_succ, List.map_cons, List.map_nil, List.cons_append, List.nil_append, List.replicate_succ, List.replicate_zero, List.length_cons, List.length_nil, Nat.reduceSub, Nat.reduceAdd]
    refine ⟨A, o, kvs, _, .str (F1 c), .str (F1 c), rfl, hA5 _, rfl, hval c hc, rfl, ?_⟩
    conv => whnf
    rw [hB5]
    refine ⟨rfl, kys, _, getK_cds hc, ?_⟩
    refine cnd_i (b := !eqS (.str (F1 c)) (.str (F2 c))) (fun e1 => ?_) (fun e1 => ?_)
    · have e1 : F1 c ≠ F2 c := by simpa [eqS] using e1
      refine ⟨A, o, kvs, _, .str (F1 c), .str (F1 c), rfl, hA5 _, rfl, hval c hc, rfl, ?_⟩
      conv => whnf
      rw [hB5]
      refine ⟨rfl, kys, _, getK_cds hc, ?_⟩
      refine ⟨lz rfl, ?_⟩
      try simp only [st0, wipeP, List.set_cons_zero, List.set_cons_succ, List.map_cons, List.map_nil, List.cons_append, List.nil_append, List.replicate_succ, List.replicate_zero, List.length_cons, List.length_nil, Nat.reduceSub, Nat.reduceAdd]
      have kT : keysT (ps.map prP) := fun z hz => by
        obtain ⟨x, _, rfl⟩ := List.mem_map.mp hz
        exact kOk_pr _
      have hg : (getN (ps.map prP) (ps.map fun p => .lst (cvs (clsD F1 F2 pre p))) (.tup [.str (F1 c), .str (F2 c)])).getD (.lst []) = .lst (cvs (clsD F1 F2 pre (F1 c, F2 c))) := by
        rw [show Pv.tup [.str (F1 c), .str (F2 c)] = prP (F1 c, F2 c) from rfl, getN_prs]
        by_cases h : (F1 c, F2 c) ∈ ps
        · rw [if_pos h]; rfl
        · rw [if_neg h, clsD_new hps h]; rfl
      refine ⟨⟨t, _, _, rfl, .inl put_same⟩, lz rfl, t, _, _, rfl, .inl put_same, kT, by rw [List.length_map, List.length_map], kOk_pr (F1 c, F2 c), ?_⟩
      dsimp only
      rw [hg]
      have hl1 : (clsD F1 F2 pre (F1 c, F2 c)).length ≤ 256 := by
        have h1 : (clsD F1 F2 pre (F1 c, F2 c)).length ≤ pre.length := List.length_filter_le _ _
        have := congrArg List.length e
        rw [List.length_append, hlen] at this
        omega
      refine ⟨lz rfl, by rw [List.length_map]; exact Nat.le_trans (show _ + 1 ≤ 257 from Nat.succ_le_succ hl1) (by decide), ?_⟩
      refine ⟨t, _, _, rfl, put_same, kT, by rw [List.length_map, List.length_map], kOk_pr (F1 c, F2 c), by rw [List.length_map]; exact Nat.lt_of_le_of_lt hpl (by decide), ?_⟩
      rw [put_put]
      refine hk _ _ ⟨rfl, ?_⟩
      by_cases h : (F1 c, F2 c) ∈ ps
      · refine ⟨ps, hps.old e1 h, ?_⟩
        rw [show Pv.tup [.str (F1 c), .str (F2 c)] = prP (F1 c, F2 c) from rfl, putN_old _ h]
        congr 2
        refine List.map_congr_left fun x _ => ?_
        rw [clsD_snoc]
        by_cases hx : x = (F1 c, F2 c)
        · rw [if_pos hx, if_pos ⟨e1, hx.symm⟩, hx, show cvs (clsD F1 F2 pre (F1 c, F2 c) ++ [c]) = cvs (clsD F1 F2 pre (F1 c, F2 c)) ++ [cdK c] from List.map_append]
        · rw [if_neg hx, if_neg fun z => hx z.2.symm]
      · refine ⟨ps ++ [(F1 c, F2 c)], hps.new e1 h, ?_⟩
        rw [show Pv.tup [.str (F1 c), .str (F2 c)] = prP (F1 c, F2 c) from rfl, putN_nw _ h, List.map_append, List.map_append]
        have ef : (ps.map fun p => Pv.lst (cvs (clsD F1 F2 (pre ++ [c]) p))) = ps.map fun p => .lst (cvs (clsD F1 F2 pre p)) := List.map_congr_left fun x hx => by
          rw [clsD_snoc, if_neg fun z => h (by rw [z.2]; exact hx)]
        rw [ef]
        have el : cvs (clsD F1 F2 (pre ++ [c]) (F1 c, F2 c)) = cvs (clsD F1 F2 pre (F1 c, F2 c)) ++ [cdK c] := by
          rw [clsD_snoc, if_pos ⟨e1, rfl⟩]
          exact List.map_append
        show _ = put _ _ (nwM w t _ (_ ++ [Pv.lst (cvs (clsD F1 F2 (pre ++ [c]) (F1 c, F2 c)))]))
        rw [el]
        rfl
    · have e1 : F1 c = F2 c := by simpa [eqS] using e1
      refine hk _ _ ⟨rfl, ps, hps.skip e1, ?_⟩
      have ef : (ps.map fun p => Pv.lst (cvs (clsD F1 F2 (pre ++ [c]) p))) = ps.map fun p => .lst (cvs (clsD F1 F2 pre p)) := List.map_congr_left fun x hx => by
        rw [clsD_snoc, if_neg fun z => z.1 e1]
      rw [ef]
  · show put S3 A _ = put (put S3 A _) t (nwM w t [] [])
    exact (put_idS (by rw [put_ne (Ne.symm hAt)]; exact ht3)).symm

def sp_law : PSp := SpS (fun (ns : List Int) => [.scr (ns.map .int)]) (fun ns _ => ns.length ≤ 63) fun _ _ p _ => p = .bl true
def b_law : PFS :=
  gSeq (gBeg [1, 2, 3, 4, 5, 6, 7, 8, 9, 10, 11] (gFor (fIt (f2 oAdd (fN oLst (fCons (fCall sp__law_cell [] noE (fCons (fVar 0) (fCons (fC (.int 0)) (fNil)))) (fNil))) (fSl (fVar 0) (fPart (fC (.int 1))) (fPart (fC (.int 3)))))) (.nm 1) (gEnd [1, 2, 3, 4, 5, 6, 7, 8, 9, 10, 11] (gSeq (gSet 2 (fCall sp__law_pen [] noE (fCons (fVar 1) (fNil))))
    (gSeq (gSet 3 (fCall sp__law_moves [] noE (fCons (fVar 2) (fCons (fC (.int 10)) (fNil)))))
    (gSeq (gPar 4 5 (fCons (fN oRepr (fCons (fVar 3) (fNil))) (fCons (fCall sp__law_days [] noE (fCons (fVar 2) (fCons (fVar 3) (fNil)))) (fNil))))
    (gSeq (gBeg [6, 7, 8, 9, 10, 11] (gFor (fRng1 (fCons (fC (.int 6)) (fNil))) (.nm 6) (gEnd [6, 7, 8, 9, 10, 11] (gSeq (gPar 7 8 (fCons (f2 oIx (fVar 5) (fCall sp__law_draw [] noE (fCons (fVar 2) (fCons (fN oLen (fCons (fVar 5) (fNil))) (fNil))))) (fCons (f2 oIx (fVar 5) (fCall sp__law_draw [] noE (fCons (fVar 2) (fCons (fN oLen (fCons (fVar 5) (fNil))) (fNil))))) (fNil))))
    (gSeq (gSet 9 (fCall sp__law_due [] noE (fCons (fVar 3) (fCons (fVar 7) (fCons (fVar 8) (fNil))))))
    (gBeg [10, 11] (gFor (fRng1 (fCons (fC (.int 2)) (fNil))) (.nm 10) (gEnd [10, 11] (gSeq (gSet 11 (fCall sp_changed [] noE (fCons (fVar 3) (fCons (fVar 7) (fCons (fVar 8) (fNil))))))
    (gSeq (gIf (fBV (f2 oNe (fN oRepr (fCons (fVar 11) (fNil))) (fN oRepr (fCons (fVar 9) (fNil))))) (gRet (fC (.bl false))) (gNext))
    (gDrop (fMeth ckL oAppend (fVar 11) (fCons (fC .non) (fNil))))))))))))))
    (gIf (fOr (fBV (f2 oNe (fCall sp_changed [] noE (fCons (fVar 3) (fCons (f2 oIx (fVar 5) (fC (.int 0))) (fCons (f2 oIx (fVar 5) (fC (.int 0))) (fNil))))) (fN oLst (fNil)))) (fBV (f2 oNe (fN oRepr (fCons (fVar 3) (fNil))) (fVar 4)))) (gRet (fC (.bl false))) (gNext)))))))))
    (gRet (fC (.bl true)))
theorem len_law : ∀ (xs : List Pv) (S : Sto) (Q : QV) (E : QE), sp_law xs S Q E → xs.length = 1 := SpS.len fun _ => rfl
theorem mono_law : ∀ (xs : List Pv) (S : Sto) (Q Q' : QV) (E E' : QE), (∀ p S', Q p S' → Q' p S') → (∀ C S', E C S' → E' C S') → sp_law xs S Q E → sp_law xs S Q' E' := SpS.mono
theorem sp_law_at {ns : List Int} {Q : QV} (hl : ns.length ≤ 63) (hq : ∀ S, Q (.bl true) S) : sp_law [.scr (ns.map .int)] (fun _ => none) Q noE := ⟨ns, rfl, hl, fun p S' e => by cases e; exact hq _⟩
theorem celR_inW {ms : List Mv} (day : Int) (c : Cel) : celR ms day c ∈ ("land" : Str) :: ms.map (·.2.2) := by
  have main : ∀ (ns : List Mv) (r : Str), r ∈ ("land" : Str) :: ms.map (·.2.2) → (∀ m ∈ ns, m ∈ ms) → ns.foldl (celF c day) r ∈ ("land" : Str) :: ms.map (·.2.2) := by
    intro ns
    induction ns with
    | nil => intro r h _; exact h
    | cons n ns ih =>
      intro r h hn
      refine ih _ ?_ fun x hx => hn x (List.mem_cons_of_mem _ hx)
      unfold celF
      split
      · exact List.mem_cons_of_mem _ (List.mem_map.mpr ⟨n, hn n List.mem_cons_self, rfl⟩)
      · exact h
  exact main ms _ List.mem_cons_self fun _ h => h
theorem land_word : wordS ("land" : Str) = true := by decide +kernel
theorem celR_word {ms : List Mv} (h : ∀ m ∈ ms, wordS m.2.2 = true) (day : Int) (c : Cel) : wordS (celR ms day c) = true := by
  rcases List.mem_cons.mp (celR_inW (ms := ms) day c) with e | e
  · rw [e]; exact land_word
  · obtain ⟨m, hm, e⟩ := List.mem_map.mp e
    rw [← e]; exact h m hm
theorem sh_word {x : Str} {d : Nat} (h : wordS x = true) : Sh 82 d (.str x) := by
  have h2 := word_asc (p := .str x) h
  have h1 : x.length ≤ 8 := by
    unfold wordS at h
    simp only [Bool.and_eq_true, decide_eq_true_eq] at h
    exact h.1.2
  refine Sh.str (n := 8) h1 fun c hc => ?_
  have := asc_lt (x := x) h2 c hc
  omega
theorem sh_tr {t : Trp} (h1 : Up 4 t.1) (h2 : wordS t.2.1 = true) (h3 : wordS t.2.2 = true) : Sh 215 1 (trP t) :=
  (Sh.tup (Shs.cons (Sh.cd (n := 4) (d := 0) h1.1 h1.2) (Shs.cons (sh_word h2) (Shs.cons (sh_word h3) Shs.nil)))).up (by decide) (Nat.le_refl _)
theorem tr_sorted (A : List Trp) : ∃ B : List Trp, sortP (A.map trP) = B.map trP ∧ B.Perm A := by
  refine ⟨A.mergeSort (fun a b => PySem.W.dataLe false toD (trP a) (trP b)), ?_, List.mergeSort_perm _ _⟩
  unfold sortP
  rw [List.map_mergeSort (s := PySem.W.dataLe false toD) (f := trP)]
  intro a _ b _
  rfl
theorem chg_len4 (ms : List Mv) (d1 d2 : Int) : ∀ ps : List Pr, (chgL ms d1 d2 ps).length ≤ ps.length * 256
  | [] => Nat.zero_le _
  | p :: ps => by
    have h := chg_len4 ms d1 d2 ps
    have h2 := cof_len4 6 (fun c => decide (c ∈ clsC ms d1 d2 celAll p)) [] up_nil
    unfold chgL at h ⊢
    rw [List.flatMap_cons, List.length_append, List.length_map, List.length_cons, Nat.succ_mul]
    have : 4 ^ (4 - ([] : Cd).length) = 256 := by decide
    omega
theorem ok_chg {ms : List Mv} (hw : ∀ m ∈ ms, wordS m.2.2 = true) {d1 d2 : Int} {ps : List Pr} (hp : PrsI ms d1 d2 celAll ps) : okR (.lst (sortP ((chgL ms d1 d2 ps).map trP))) ∧ (sortP ((chgL ms d1 d2 ps).map trP)).length < sizeLine := by
  obtain ⟨B, e, p⟩ := tr_sorted (chgL ms d1 d2 ps)
  have hl := hp.len
  have hc := chg_len4 ms d1 d2 ps
  have hB : B.length ≤ 65536 := by
    rw [p.length_eq]
    omega
  rw [e]
  refine ⟨?_, by rw [List.length_map]; exact Nat.lt_of_le_of_lt hB (by decide)⟩
  have T : Shs ((215 + 2) * B.length) 1 (B.map trP) := Shs.map fun t ht => by
    have ht := p.mem_iff.mp ht
    unfold chgL at ht
    obtain ⟨q, hq, ht⟩ := List.mem_flatMap.mp ht
    obtain ⟨k, hk, rfl⟩ := List.mem_map.mp ht
    obtain ⟨c, _, _, rfl⟩ := (hp.mem q).mp hq
    exact sh_tr (cof_pre 6 _ [] up_nil k hk).2 (celR_word hw d1 c) (celR_word hw d2 c)
  exact (Sh.lst T).ok (by omega) (by decide)
theorem chg_same {ms : List Mv} {d : Int} {ps : List Pr} (hp : PrsI ms d d celAll ps) : ps = [] := by
  cases ps with
  | nil => rfl
  | cons p ps =>
    obtain ⟨c, _, h, _⟩ := (hp.mem p).mp List.mem_cons_self
    unfold difC at h
    exact absurd rfl (of_decide_eq_true h)
set_option maxHeartbeats 2000000 in
theorem ex_law {xs : List Pv} {S0 : Sto} {Q : QV} {Ep : QE} : sp_law xs S0 Q Ep → b_law (endD Q) (st0 12 xs) S0 := SpS.ex fun ns S Q hl q => by
  refine ⟨(ns, 0), rfl, trivial, lz rfl, ?_⟩
  have hcl := cut_len (ns.map .int) (some 1) (some 3)
  rw [List.length_map] at hcl
  refine ⟨Nat.le_trans (show 1 + _ ≤ 100 by omega) (by decide), ?_⟩
  try simp only [st0, wipeP, List.set_cons_zero, List.set_cons_succ, List.map_cons, List.map_nil, List.cons_append, List.nil_append, List.replicate_succ, List.replicate_zero, List.length_cons, List.length_nil, Nat.reduceSub, Nat.reduceAdd]
  refine forW_c (P := fun x => ∃ i : Int, x = .int i) (fun _ => True) ?_ trivial ?_ ?_
  · intro x hx
    rcases List.mem_cons.mp hx with hx | hx
    · exact ⟨_, hx⟩
    · obtain ⟨i, _, rfl⟩ := List.mem_map.mp (cut_mem hx)
      exact ⟨i, rfl⟩
  · intro S _
    exact ⟨trivial, Out.id (q _ _ rfl)⟩
  rintro _ ⟨c, rfl⟩ kk hk S -
  refine ⟨trivial, c, rfl, trivial, ?_⟩
  rintro _ _ ⟨l, m, hl0, sm, rfl, rfl⟩
  refine ⟨(l, 10), rfl, ⟨⟨m, put_same, sm⟩, show (10 : Nat) ≤ 24 by decide⟩, ?_⟩
  rintro p _ ⟨m1, mo, s1, rfl⟩
  have okp : okR p := (mo.th.tho mo.d (by decide) (by decide)).1
  obtain ⟨ms, rfl, ho⟩ := msOk mo
  refine ⟨okp, fun z ez => ?_⟩
  try simp only [st0, wipeP, List.set_cons_zero, List.set_cons_succ, List.map_cons, List.map_nil, List.cons_append, List.nil_append, List.replicate_succ, List.replicate_zero, List.length_cons, List.length_nil, Nat.reduceSub, Nat.reduceAdd]
  refine ⟨(l, ms), rfl, ⟨⟨m1, put_same, s1⟩, ho⟩, ?_⟩
  rintro _ _ ⟨L, m2, ⟨hL, hL0, hLl⟩, s2, rfl, rfl⟩
  have hLn : 0 < L.length := List.length_pos_iff.mpr fun e => by rw [e] at hL0; cases hL0
  try simp only [st0, wipeP, List.set_cons_zero, List.set_cons_succ, List.map_cons, List.map_nil, List.cons_append, List.nil_append, List.replicate_succ, List.replicate_zero, List.length_cons, List.length_nil, Nat.reduceSub, Nat.reduceAdd]
  conv => whnf
  refine ⟨by unfold bnd; decide, ?_⟩
  refine forW_c (P := fun _ => True) (fun S => ∃ m, S l = some m ∧ Pn2 m) (fun _ _ => trivial) ⟨m2, put_same, s2⟩ ?_ ?_
  · intro S hS
    refine ⟨trivial, ?_⟩
    obtain ⟨d0, e0, hd0⟩ := at_map (xs := L) (f := Pv.int) (r := 0) (P := fun d => (0 : Int) ≤ d) (by decide) (by omega) hL
    have pre : (smP (.tup (ms.map mvP)) = true ∧ movesP (.tup (ms.map mvP)) = true) ∧ (∀ m ∈ ms, CdOk m.2.1 ∧ m.2.1.length ≤ 1000) ∧ 0 ≤ d0 ∧ 0 ≤ d0 := ⟨⟨ho.sm, ho.q⟩, fun m hm => ⟨(ho.t m hm).cd, Nat.le_trans (ho.t m hm).len (by decide)⟩, hd0, hd0⟩
    try simp only [st0, wipeP, List.set_cons_zero, List.set_cons_succ, List.map_cons, List.map_nil, List.cons_append, List.nil_append, List.replicate_succ, List.replicate_zero, List.length_cons, List.length_nil, Nat.reduceSub, Nat.reduceAdd]
    show match atI (L.map Pv.int) 0 with | some p => _ | none => False
    rw [e0]
    dsimp only
    show match atI (L.map Pv.int) 0 with | some p => _ | none => False
    rw [e0]
    dsimp only
    refine ⟨(ms, d0, d0), rfl, pre, ?_⟩
    rintro _ _ ⟨qs, b, hqs, hb, rfl, rfl⟩
    obtain rfl := chg_same hqs
    have es : sortP ((chgL (ms, d0, d0).1 (ms, d0, d0).2.1 (ms, d0, d0).2.2 []).map trP) = [] := by simp [sortP, chgL]
    rw [es]
    have t : top (put S b (.lst [])) (.ref b) = .lst [] := by simp [top]
    refine ⟨lz rfl, ?_⟩
    show (okD (top _ (.ref b)) = true ∧ okD (.lst []) = true) ∧ _
    rw [t]
    refine ⟨⟨rfl, rfl⟩, ?_⟩
    refine cnd_f (b := !PyData.eqv (toD (.lst [])) (toD (.lst []))) rfl ?_
    refine ⟨okp, fun z3 ez3 => ?_⟩
    have hz : z3 = z := by rw [ez3, ez]; rfl
    exact cnd_f (b := !decide (z3 = z)) (by rw [decide_eq_true hz]; rfl) (hk _ trivial)
  rintro _ - k2 hk2 S ⟨m3, hS3, s3⟩
  refine ⟨trivial, ?_⟩
  have hpos : (0 : Int) < L.length := by omega
  have hlt : (L.length : Int) < 2 ^ 64 := by omega
  have elen : [Pv.ref l, .int ((L.map Pv.int).length : Nat)] = [Pv.ref l, .int (L.length : Int)] := by rw [List.length_map]
  try simp only [st0, wipeP, List.set_cons_zero, List.set_cons_succ, List.map_cons, List.map_nil, List.cons_append, List.nil_append, List.replicate_succ, List.replicate_zero, List.length_cons, List.length_nil, Nat.reduceSub, Nat.reduceAdd]
  conv => whnf
  refine ⟨(l, (L.length : Int)), elen, ⟨⟨m3, hS3, s3⟩, hpos, hlt⟩, ?_⟩
  rintro _ _ ⟨r, m4, r0, r1, s4, rfl, rfl⟩
  obtain ⟨d1, e1, hd1⟩ := at_map (xs := L) (f := Pv.int) (r := r) (P := fun d => (0 : Int) ≤ d) r0 r1 hL
  show match atI (L.map Pv.int) r with | some p => _ | none => False
  rw [e1]
  dsimp only
  have hS4 : put S l m4 l = some m4 := put_same
  generalize put S l m4 = S4 at hS4 ⊢
  try simp only [st0, wipeP, List.set_cons_zero, List.set_cons_succ, List.map_cons, List.map_nil, List.cons_append, List.nil_append, List.replicate_succ, List.replicate_zero, List.length_cons, List.length_nil, Nat.reduceSub, Nat.reduceAdd]
  conv => whnf
  refine ⟨(l, (L.length : Int)), elen, ⟨⟨m4, hS4, s4⟩, hpos, hlt⟩, ?_⟩
  rintro _ _ ⟨r', m5, r0', r1', s5, rfl, rfl⟩
  obtain ⟨d2, e2, hd2⟩ := at_map (xs := L) (f := Pv.int) (r := r') (P := fun d => (0 : Int) ≤ d) r0' r1' hL
  show match atI (L.map Pv.int) r' with | some p => _ | none => False
  rw [e2]
  dsimp only
  have hS5 : put S4 l m5 l = some m5 := put_same
  generalize put S4 l m5 = S5 at hS5 ⊢
  try simp only [st0, wipeP, List.set_cons_zero, List.set_cons_succ, List.map_cons, List.map_nil, List.cons_append, List.nil_append, List.replicate_succ, List.replicate_zero, List.length_cons, List.length_nil, Nat.reduceSub, Nat.reduceAdd]
  conv => whnf
  refine ⟨(ms, d1, d2), rfl, ho.t, ?_⟩
  rintro _ S ⟨ps, hps, rfl, rfl⟩
  obtain ⟨oka, lla⟩ := ok_chg (fun m hm => (ho.t m hm).word) hps
  have same : ∀ qs, PrsI ms d1 d2 celAll qs → sortP ((chgL ms d1 d2 qs).map trP) = sortP ((chgL ms d1 d2 ps).map trP) := fun qs hq => prs_perm hq hps
  generalize sortP ((chgL ms d1 d2 ps).map trP) = A at same oka lla ⊢
  have pre : (smP (.tup (ms.map mvP)) = true ∧ movesP (.tup (ms.map mvP)) = true) ∧ (∀ m ∈ ms, CdOk m.2.1 ∧ m.2.1.length ≤ 1000) ∧ 0 ≤ d1 ∧ 0 ≤ d2 := ⟨⟨ho.sm, ho.q⟩, fun m hm => ⟨(ho.t m hm).cd, Nat.le_trans (ho.t m hm).len (by decide)⟩, hd1, hd2⟩
  try simp only [st0, wipeP, List.set_cons_zero, List.set_cons_succ, List.map_cons, List.map_nil, List.cons_append, List.nil_append, List.replicate_succ, List.replicate_zero, List.length_cons, List.length_nil, Nat.reduceSub, Nat.reduceAdd]
  conv => whnf
  refine ⟨by unfold bnd; decide, ?_⟩
  refine forW_c (P := fun _ => True) (fun S => ∃ m, S l = some m ∧ Pn2 m) (fun _ _ => trivial) ⟨m5, hS5, s5⟩ (fun S hS => ⟨trivial, hk2 _ hS⟩) ?_
  clear hS5 hS4 hS3
  rintro _ - k3 hk3 S ⟨m6, hS6, s6⟩
  refine ⟨trivial, ?_⟩
  try simp only [st0, wipeP, List.set_cons_zero, List.set_cons_succ, List.map_cons, List.map_nil, List.cons_append, List.nil_append, List.replicate_succ, List.replicate_zero, List.length_cons, List.length_nil, Nat.reduceSub, Nat.reduceAdd]
  conv => whnf
  refine ⟨(ms, d1, d2), rfl, pre, ?_⟩
  rintro _ _ ⟨qs, b, hqs, hb, rfl, rfl⟩
  rw [same qs hqs]
  try simp only [st0, wipeP, List.set_cons_zero, List.set_cons_succ, List.map_cons, List.map_nil, List.cons_append, List.nil_append, List.replicate_succ, List.replicate_zero, List.length_cons, List.length_nil, Nat.reduceSub, Nat.reduceAdd]
  have hlb : l ≠ b := fun z => by rw [z, hb] at hS6; cases hS6
  have t2 : top (put S b (.lst A)) (.ref b) = .lst A := by simp [top]
  refine ⟨?_, ?_⟩
  · show okR (top (put S b (.lst A)) (.ref b))
    rw [t2]; exact oka
  intro z1 hz1
  refine ⟨oka, ?_⟩
  intro z2 hz2
  have hz : z1 = z2 := by rw [hz1, hz2, t2]; rfl
  refine cnd_f (b := !decide (z1 = z2)) (by rw [decide_eq_true hz]; rfl) ?_
  refine ⟨by simp [ckL], ?_⟩
  refine app_i put_same lla ?_
  rw [put_put]
  exact hk3 _ ⟨m6, by rw [put_ne hlb]; exact hS6, s6⟩

section
variable {P : Program} {w : World} {K : PySem.W.Frag} {mg : Str → Option Value} {base : Heap}
def topS (i : Nat) : Stmt := PySem.Challenge.pw_onewhere_k45_what_changed_hands.main.body.getD i (.Pass ⟨0, 0, 0, 0⟩)
abbrev s_is_whole : Stmt := topS 6
abbrev n_is_whole : List Str := ["thing"]
theorem sc_is_whole : FnScope n_is_whole ["thing"] (defScope s_is_whole) := ⟨rfl, rfl, rfl, by decide +kernel, rfl, by decide +kernel, by decide +kernel⟩
theorem ok_is_whole {f : Addr} {dV : Value} {fd : FuncData} (F : FunV K "is_whole" "is_whole" s_is_whole dV f fd) (z_bool : mg "bool" = none) (z_int : mg "int" = none) (z_isinstance : mg "isinstance" = none) : FnG P w K mg base 1 f fd ["thing"] sp_is_whole :=
  okG F sc_is_whole len_is_whole mono_is_whole (fun cdv A outer s S0 H0 E Q Ep xs => by
    intro X hr hgu hE h
    exact ⟨b_is_whole, pzs_one (pz_ret (pv_and (pv_isi .int z_isinstance z_int (pv_var 0)) (pv_one (pv_not (pv_isi .bl z_isinstance z_bool (pv_var 0)))))), ex_is_whole h⟩)
abbrev s_is_word : Stmt := topS 7
abbrev n_is_word : List Str := ["thing", "one"]
theorem sc_is_word : FnScope n_is_word ["thing"] (defScope s_is_word) := ⟨rfl, rfl, rfl, by decide +kernel, rfl, by decide +kernel, by decide +kernel⟩
theorem ok_is_word {f : Addr} {dV : Value} {fd : FuncData} (F : FunV K "is_word" "is_word" s_is_word dV f fd) (z_all : mg "all" = none) (z_isinstance : mg "isinstance" = none) (z_len : mg "len" = none) (z_str : mg "str" = none) (g_SMALL : ∃ u, mg "SMALL" = some u ∧ KRep K v_SMALL u) : FnG P w K mg base 1 f fd ["thing"] sp_is_word :=
  okG F sc_is_word len_is_word mono_is_word (fun cdv A outer s S0 H0 E Q Ep xs => by
    intro X hr hgu hE h
    obtain ⟨u_SMALL, g_SMALL⟩ := g_SMALL
    exact ⟨b_is_word, pzs_one (pz_ret (pv_and (pv_isi .str z_isinstance z_str (pv_var 0)) (pv_and (pv_chain (opLe (hu64 hr)) sim_cmp (opLe (hu64 hr)) sim_cmp (pv_int) (pv_len z_len (pvs_cons (pv_var 0) (pvs_nil))) (pv_int)) (pv_one (pv_all rfl z_all (pvs_cons (pv_lc [("one", 1)] rfl sc_is_word.nd (pit_val (pv_var 0)) (blkOk_by (N := n_is_word) (sc := defScope s_is_word) (by decide +kernel)) (fun _ _ _ _ _ => pgt_name 1 sc_is_word.nd) (fun _ _ _ _ _ => pbs_nil) (fun _ _ _ _ _ => pv_cmp (opIn (hu65 hr)) sim_in (pv_var 1) (pv_glob (by rfl) g_SMALL.1 g_SMALL.2) (by rfl))) (pvs_nil))))))), ex_is_word h⟩)
abbrev s_rises : Stmt := topS 8
abbrev n_rises : List Str := ["row", "one", "later"]
theorem sc_rises : FnScope n_rises ["row"] (defScope s_rises) := ⟨rfl, rfl, rfl, by decide +kernel, rfl, by decide +kernel, by decide +kernel⟩
theorem ok_rises {f : Addr} {dV : Value} {fd : FuncData} (F : FunV K "rises" "rises" s_rises dV f fd) (z_all : mg "all" = none) (z_zip : mg "zip" = none) : FnG P w K mg base 1 f fd ["row"] sp_rises :=
  okG F sc_rises len_rises mono_rises (fun cdv A outer s S0 H0 E Q Ep xs => by
    intro X hr hgu hE h
    exact ⟨b_rises, pzs_one (pz_ret (pv_all rfl z_all (pvs_cons (pv_lc [("one", 1), ("later", 2)] rfl sc_rises.nd (pit_zip z_zip (pvs_cons (pv_var 0) (pvs_cons (pv_slice (pv_var 0) (pvo_some (pv_int)) (pvo_none)) (pvs_nil)))) (blkOk_by (N := n_rises) (sc := defScope s_rises) (by decide +kernel)) (fun _ _ _ _ _ => pgt_tup rfl (pgt_cons (pgt_name 1 sc_rises.nd) (pgt_cons (pgt_name 2 sc_rises.nd) (pgt_nil)))) (fun _ _ _ _ _ => pbs_nil) (fun _ _ _ _ _ => pv_cmp (opLt (hu64 hr)) sim_cmp (pv_var 1) (pv_var 2) (nomark _))) (pvs_nil)))), ex_rises h⟩)
abbrev s_is_row : Stmt := topS 9
abbrev n_is_row : List Str := ["thing", "least", "most", "many", "one"]
theorem sc_is_row : FnScope n_is_row ["thing", "least", "most", "many"] (defScope s_is_row) := ⟨rfl, rfl, rfl, by decide +kernel, rfl, by decide +kernel, by decide +kernel⟩
theorem ok_is_row {f : Addr} {dV : Value} {fd : FuncData} (F : FunV K "is_row" "is_row" s_is_row dV f fd) (z_all : mg "all" = none) (z_isinstance : mg "isinstance" = none) (z_len : mg "len" = none) (z_tuple : mg "tuple" = none) : FnG P w K mg base 1 f fd ["thing", "least", "most", "many"] sp_is_row :=
  okG F sc_is_row len_is_row mono_is_row (fun cdv A outer s S0 H0 E Q Ep xs => by
    intro X hr hgu hE h
    exact ⟨b_is_row, pzs_cons (pz_if (PBw.pb (pbw_or (pb_not (pb_val (pv_isi .tup z_isinstance z_tuple (pv_var 0)))) (pbw_or1 (pb_not (pb_chain (opLe (hu64 hr)) sim_cmp (opLe (hu64 hr)) sim_cmp (pv_var 1) (pv_len z_len (pvs_cons (pv_var 0) (pvs_nil))) (pv_var 2)))))) (pzs_one (pz_ret (pv_bl))) (pzs_nil)) (pzs_one (pz_ret (pv_all rfl z_all (pvs_cons (pv_lc [("one", 4)] rfl sc_is_row.nd (pit_val (pv_var 0)) (blkOk_by (N := n_is_row) (sc := defScope s_is_row) (by decide +kernel)) (fun _ _ _ _ _ => pgt_name 4 sc_is_row.nd) (fun _ _ _ _ _ => pbs_nil) (fun _ _ _ _ _ => pv_and (pv_isi .tup z_isinstance z_tuple (pv_var 4)) (pv_one (pv_cmp (opEq (hu64 hr)) sim_eq (pv_len z_len (pvs_cons (pv_var 4) (pvs_nil))) (pv_var 3) (nomark _))))) (pvs_nil))))), ex_is_row h⟩)
abbrev s_is_day : Stmt := topS 10
abbrev n_is_day : List Str := ["thing"]
theorem sc_is_day : FnScope n_is_day ["thing"] (defScope s_is_day) := ⟨rfl, rfl, rfl, by decide +kernel, rfl, by decide +kernel, by decide +kernel⟩
theorem ok_is_day {f : Addr} {dV : Value} {fd : FuncData} (F : FunV K "is_day" "is_day" s_is_day dV f fd) (c_is_whole : Cal P w K mg base 1 "is_whole" [] sp_is_whole) : FnG P w K mg base 2 f fd ["thing"] sp_is_day :=
  okG F sc_is_day len_is_day mono_is_day (fun cdv A outer s S0 H0 E Q Ep xs => by
    intro X hr hgu hE h
    exact ⟨b_is_day, pzs_one (pz_ret (pv_and (pv_cal c_is_whole (hr.mono (by decide)) hgu (pvs_cons (pv_var 0) (pvs_nil))) (pv_one (pv_cmp (opGe (hu64 hr)) sim_cmp (pv_var 0) (pv_int) (nomark _))))), ex_is_day h⟩)
abbrev s_need_day : Stmt := topS 11
abbrev n_need_day : List Str := ["thing", "least"]
theorem sc_need_day : FnScope n_need_day ["thing", "least"] (defScope s_need_day) := ⟨rfl, rfl, rfl, by decide +kernel, rfl, by decide +kernel, by decide +kernel⟩
theorem ok_need_day {f : Addr} {dV : Value} {fd : FuncData} (F : FunV K "need_day" "need_day" s_need_day dV f fd) (c_is_day : Cal P w K mg base 2 "is_day" [] sp_is_day) : FnG P w K mg base 3 f fd ["thing", "least"] sp_need_day :=
  okG F sc_need_day len_need_day mono_need_day (fun cdv A outer s S0 H0 E Q Ep xs => by
    intro X hr hgu hE h
    exact ⟨b_need_day, pzs_one (pz_if (PBw.pb (pbw_or (pb_not (pb_val (pv_cal c_is_day (hr.mono (by decide)) hgu (pvs_cons (pv_var 0) (pvs_nil))))) (pbw_or1 (pb_cmp (opLt (hu64 hr)) sim_cmp (pv_var 0) (pv_var 1) (nomark _))))) (pzs_one (pz_never)) (pzs_nil)), ex_need_day h⟩)
abbrev s_is_code : Stmt := topS 16
abbrev n_is_code : List Str := ["thing", "sign"]
theorem sc_is_code : FnScope n_is_code ["thing"] (defScope s_is_code) := ⟨rfl, rfl, rfl, by decide +kernel, rfl, by decide +kernel, by decide +kernel⟩
theorem ok_is_code {f : Addr} {dV : Value} {fd : FuncData} (F : FunV K "is_code" "is_code" s_is_code dV f fd) (z_all : mg "all" = none) (z_isinstance : mg "isinstance" = none) (z_len : mg "len" = none) (z_str : mg "str" = none) (g_FIGURES : ∃ u, mg "FIGURES" = some u ∧ KRep K v_FIGURES u) (g_MOST_DEPTH : ∃ u, mg "MOST_DEPTH" = some u ∧ KRep K v_MOST_DEPTH u) : FnG P w K mg base 1 f fd ["thing"] sp_is_code :=
  okG F sc_is_code len_is_code mono_is_code (fun cdv A outer s S0 H0 E Q Ep xs => by
    intro X hr hgu hE h
    obtain ⟨u_FIGURES, g_FIGURES⟩ := g_FIGURES
    obtain ⟨u_MOST_DEPTH, g_MOST_DEPTH⟩ := g_MOST_DEPTH
    exact ⟨b_is_code, pzs_one (pz_ret (pv_and (pv_isi .str z_isinstance z_str (pv_var 0)) (pv_and (pv_cmp (opLe (hu64 hr)) sim_cmp (pv_len z_len (pvs_cons (pv_var 0) (pvs_nil))) (pv_glob (by rfl) g_MOST_DEPTH.1 g_MOST_DEPTH.2) (nomark _)) (pv_one (pv_all rfl z_all (pvs_cons (pv_lc [("sign", 1)] rfl sc_is_code.nd (pit_val (pv_var 0)) (blkOk_by (N := n_is_code) (sc := defScope s_is_code) (by decide +kernel)) (fun _ _ _ _ _ => pgt_name 1 sc_is_code.nd) (fun _ _ _ _ _ => pbs_nil) (fun _ _ _ _ _ => pv_cmp (opIn (hu65 hr)) sim_in (pv_var 1) (pv_glob (by rfl) g_FIGURES.1 g_FIGURES.2) (by rfl))) (pvs_nil))))))), ex_is_code h⟩)
abbrev s_are_codes : Stmt := topS 17
abbrev n_are_codes : List Str := ["thing", "most", "one", "later"]
theorem sc_are_codes : FnScope n_are_codes ["thing", "most"] (defScope s_are_codes) := ⟨rfl, rfl, rfl, by decide +kernel, rfl, by decide +kernel, by decide +kernel⟩
theorem ok_are_codes {f : Addr} {dV : Value} {fd : FuncData} (F : FunV K "are_codes" "are_codes" s_are_codes dV f fd) (z_all : mg "all" = none) (z_any : mg "any" = none) (z_isinstance : mg "isinstance" = none) (z_len : mg "len" = none) (z_tuple : mg "tuple" = none) (z_zip : mg "zip" = none) (g_MOST_CODES : ∃ u, mg "MOST_CODES" = some u ∧ KRep K v_MOST_CODES u) (c_is_code : Cal P w K mg base 1 "is_code" [] sp_is_code) (c_rises : Cal P w K mg base 1 "rises" [] sp_rises) : FnG P w K mg base 2 f fd ["thing", "most"] sp_are_codes :=
  okG F sc_are_codes len_are_codes mono_are_codes (fun cdv A outer s S0 H0 E Q Ep xs => by
    intro X hr hgu hE h
    obtain ⟨u_MOST_CODES, g_MOST_CODES⟩ := g_MOST_CODES
    exact ⟨b_are_codes, pzs_cons (pz_if (PBw.pb (pbw_or (pb_not (pb_val (pv_isi .tup z_isinstance z_tuple (pv_var 0)))) (pbw_or1 (pb_cmp (opGt (hu64 hr)) sim_cmp (pv_len z_len (pvs_cons (pv_var 0) (pvs_nil))) (pv_glob (by rfl) g_MOST_CODES.1 g_MOST_CODES.2) (nomark _))))) (pzs_one (pz_ret (pv_bl))) (pzs_nil)) (pzs_cons (pz_if (PBw.pb (pbw_or (pb_not (pb_val (pv_all rfl z_all (pvs_cons (pv_lc [("one", 2)] rfl sc_are_codes.nd (pit_val (pv_var 0)) (blkOk_by (N := n_are_codes) (sc := defScope s_are_codes) (by decide +kernel)) (fun _ _ _ _ _ => pgt_name 2 sc_are_codes.nd) (fun _ _ _ _ _ => pbs_nil) (fun _ _ _ _ _ => pv_and (pv_cal c_is_code (hr.mono (by decide)) hgu (pvs_cons (pv_var 2) (pvs_nil))) (pv_one (pv_cmp (opLe (hu64 hr)) sim_cmp (pv_len z_len (pvs_cons (pv_var 2) (pvs_nil))) (pv_var 1) (nomark _))))) (pvs_nil))))) (pbw_or1 (pb_not (pb_val (pv_cal c_rises (hr.mono (by decide)) hgu (pvs_cons (pv_var 0) (pvs_nil)))))))) (pzs_one (pz_ret (pv_bl))) (pzs_nil)) (pzs_one (pz_ret (pv_not (pv_any rfl z_any (pvs_cons (pv_lc [("one", 2), ("later", 3)] rfl sc_are_codes.nd (pit_zip z_zip (pvs_cons (pv_var 0) (pvs_cons (pv_slice (pv_var 0) (pvo_some (pv_int)) (pvo_none)) (pvs_nil)))) (blkOk_by (N := n_are_codes) (sc := defScope s_are_codes) (by decide +kernel)) (fun _ _ _ _ _ => pgt_tup rfl (pgt_cons (pgt_name 2 sc_are_codes.nd) (pgt_cons (pgt_name 3 sc_are_codes.nd) (pgt_nil)))) (fun _ _ _ _ _ => pbs_nil) (fun _ _ _ _ _ => pv_starts (pv_var 3) (pv_var 2))) (pvs_nil))))))), ex_are_codes h⟩)
abbrev s_are_moves : Stmt := topS 23
abbrev n_are_moves : List Str := ["thing", "days", "day", "codes", "region", "one", "later"]
theorem sc_are_moves : FnScope n_are_moves ["thing"] (defScope s_are_moves) := ⟨rfl, rfl, rfl, by decide +kernel, rfl, by decide +kernel, by decide +kernel⟩
theorem ok_are_moves {f : Addr} {dV : Value} {fd : FuncData} (F : FunV K "are_moves" "are_moves" s_are_moves dV f fd) (z_all : mg "all" = none) (z_any : mg "any" = none) (z_zip : mg "zip" = none) (g_MOST_FIGURES : ∃ u, mg "MOST_FIGURES" = some u ∧ KRep K v_MOST_FIGURES u) (g_MOST_MOVES : ∃ u, mg "MOST_MOVES" = some u ∧ KRep K v_MOST_MOVES u) (c_are_codes : Cal P w K mg base 2 "are_codes" [] sp_are_codes) (c_is_day : Cal P w K mg base 2 "is_day" [] sp_is_day) (c_is_row : Cal P w K mg base 1 "is_row" [] sp_is_row) (c_is_word : Cal P w K mg base 1 "is_word" [] sp_is_word) : FnG P w K mg base 3 f fd ["thing"] sp_are_moves :=
  okG F sc_are_moves len_are_moves mono_are_moves (fun cdv A outer s S0 H0 E Q Ep xs => by
    intro X hr hgu hE h
    obtain ⟨u_MOST_FIGURES, g_MOST_FIGURES⟩ := g_MOST_FIGURES
    obtain ⟨u_MOST_MOVES, g_MOST_MOVES⟩ := g_MOST_MOVES
    exact ⟨b_are_moves, pzs_cons (pz_if (pb_not (pb_val (pv_cal c_is_row (hr.mono (by decide)) hgu (pvs_cons (pv_var 0) (pvs_cons (pv_int) (pvs_cons (pv_glob (by rfl) g_MOST_MOVES.1 g_MOST_MOVES.2) (pvs_cons (pv_int) (pvs_nil)))))))) (pzs_one (pz_ret (pv_bl))) (pzs_nil)) (pzs_cons (pz_if (pb_not (pb_val (pv_all rfl z_all (pvs_cons (pv_lc [("day", 2), ("codes", 3), ("region", 4)] rfl sc_are_moves.nd (pit_val (pv_var 0)) (blkOk_by (N := n_are_moves) (sc := defScope s_are_moves) (by decide +kernel)) (fun _ _ _ _ _ => pgt_tup rfl (pgt_cons (pgt_name 2 sc_are_moves.nd) (pgt_cons (pgt_name 3 sc_are_moves.nd) (pgt_cons (pgt_name 4 sc_are_moves.nd) (pgt_nil))))) (fun _ _ _ _ _ => pbs_nil) (fun _ _ _ _ _ => pv_and (pv_cal c_is_day (hr.mono (by decide)) hgu (pvs_cons (pv_var 2) (pvs_nil))) (pv_and (pv_cal c_are_codes (hr.mono (by decide)) hgu (pvs_cons (pv_var 3) (pvs_cons (pv_glob (by rfl) g_MOST_FIGURES.1 g_MOST_FIGURES.2) (pvs_nil)))) (pv_one (pv_cal c_is_word (hr.mono (by decide)) hgu (pvs_cons (pv_var 4) (pvs_nil))))))) (pvs_nil))))) (pzs_one (pz_ret (pv_bl))) (pzs_nil)) (pzs_cons (pz_if (pb_val (pv_any rfl z_any (pvs_cons (pv_lc [("day", 2), ("codes", 3), ("region", 4)] rfl sc_are_moves.nd (pit_val (pv_var 0)) (blkOk_by (N := n_are_moves) (sc := defScope s_are_moves) (by decide +kernel)) (fun _ _ _ _ _ => pgt_tup rfl (pgt_cons (pgt_name 2 sc_are_moves.nd) (pgt_cons (pgt_name 3 sc_are_moves.nd) (pgt_cons (pgt_name 4 sc_are_moves.nd) (pgt_nil))))) (fun _ _ _ _ _ => pbs_nil) (fun _ _ _ _ _ => pv_cmp (opEq (hu64 hr)) sim_eq (pv_var 3) (pv_tup (pvs_nil)) (nomark _))) (pvs_nil)))) (pzs_one (pz_ret (pv_bl))) (pzs_nil)) (pzs_cons (pz_setLc 1 [("day", 2), ("codes", 3), ("region", 4)] rfl sc_are_moves.nd (pit_val (pv_var 0)) (blkOk_by (N := n_are_moves) (sc := defScope s_are_moves) (by decide +kernel)) (fun _ _ _ _ _ => pgt_tup rfl (pgt_cons (pgt_name 2 sc_are_moves.nd) (pgt_cons (pgt_name 3 sc_are_moves.nd) (pgt_cons (pgt_name 4 sc_are_moves.nd) (pgt_nil))))) (fun _ _ _ _ _ => pbs_nil) (fun _ _ _ _ _ => pv_var 2) (sw_true rfl rfl rfl (by decide +kernel))) (pzs_one (pz_ret (pv_all rfl z_all (pvs_cons (pv_lc [("one", 5), ("later", 6)] rfl sc_are_moves.nd (pit_zip z_zip (pvs_cons (pv_var 1) (pvs_cons (pv_slice (pv_var 1) (pvo_some (pv_int)) (pvo_none)) (pvs_nil)))) (blkOk_by (N := n_are_moves) (sc := defScope s_are_moves) (by decide +kernel)) (fun _ _ _ _ _ => pgt_tup rfl (pgt_cons (pgt_name 5 sc_are_moves.nd) (pgt_cons (pgt_name 6 sc_are_moves.nd) (pgt_nil)))) (fun _ _ _ _ _ => pbs_nil) (fun _ _ _ _ _ => pv_cmp (opLe (hu64 hr)) sim_cmp (pv_var 5) (pv_var 6) (nomark _))) (pvs_nil)))))))), ex_are_moves h⟩)
abbrev s_need_moves : Stmt := topS 24
abbrev n_need_moves : List Str := ["thing"]
theorem sc_need_moves : FnScope n_need_moves ["thing"] (defScope s_need_moves) := ⟨rfl, rfl, rfl, by decide +kernel, rfl, by decide +kernel, by decide +kernel⟩
theorem ok_need_moves {f : Addr} {dV : Value} {fd : FuncData} (F : FunV K "need_moves" "need_moves" s_need_moves dV f fd) (c_are_moves : Cal P w K mg base 3 "are_moves" [] sp_are_moves) : FnG P w K mg base 4 f fd ["thing"] sp_need_moves :=
  okG F sc_need_moves len_need_moves mono_need_moves (fun cdv A outer s S0 H0 E Q Ep xs => by
    intro X hr hgu hE h
    exact ⟨b_need_moves, pzs_one (pz_if (pb_not (pb_val (pv_cal c_are_moves (hr.mono (by decide)) hgu (pvs_cons (pv_var 0) (pvs_nil))))) (pzs_one (pz_never)) (pzs_nil)), ex_need_moves h⟩)
abbrev s_block_of : Stmt := topS 25
abbrev n_block_of : List Str := ["code", "x", "y", "many", "figure"]
theorem sc_block_of : FnScope n_block_of ["code"] (defScope s_block_of) := ⟨rfl, rfl, rfl, by decide +kernel, rfl, by decide +kernel, by decide +kernel⟩
theorem ok_block_of {f : Addr} {dV : Value} {fd : FuncData} (F : FunV K "block_of" "block_of" s_block_of dV f fd) (z_int : mg "int" = none) (g_CELLS : ∃ u, mg "CELLS" = some u ∧ KRep K v_CELLS u) : FnG P w K mg base 1 f fd ["code"] sp_block_of :=
  okG F sc_block_of len_block_of mono_block_of (fun cdv A outer s S0 H0 E Q Ep xs => by
    intro X hr hgu hE h
    have hps : PassesOwn (model X.prog X.w) X.A X.env X.xe := passes_of rfl
    obtain ⟨u_CELLS, g_CELLS⟩ := g_CELLS
    exact ⟨b_block_of, pzs_cons (pz_par3 1 2 3 rfl sc_block_of.nd (pvs_cons (pv_int) (pvs_cons (pv_int) (pvs_cons (pv_glob (by rfl) g_CELLS.1 g_CELLS.2) (pvs_nil))))) (pzs_cons (pz_beg [4] (pz_for hps rfl (pit_val (pv_var 0)) (pgt_name 4 sc_block_of.nd) (pzs_end [4] (pzs_cons (pz_set 3 sc_block_of.nd (pv_div (pv_var 3) (pv_int))) (pzs_one (pz_par 1 2 rfl sc_block_of.nd (pvs_cons (pv_add (pv_var 1) (pv_mul (pv_mod (pv_intS z_int (pvs_cons (pv_var 4) (pvs_nil))) (pv_int)) (pv_var 3))) (pvs_cons (pv_add (pv_var 2) (pv_mul (pv_div (pv_intS z_int (pvs_cons (pv_var 4) (pvs_nil))) (pv_int)) (pv_var 3))) (pvs_nil))))))))) (pzs_one (pz_ret (pv_tup (pvs_cons (pv_var 1) (pvs_cons (pv_var 2) (pvs_cons (pv_var 3) (pvs_nil)))))))), ex_block_of h⟩)
abbrev s_cells_of : Stmt := topS 26
abbrev n_cells_of : List Str := ["code", "x", "y", "many", "here", "there"]
theorem sc_cells_of : FnScope n_cells_of ["code"] (defScope s_cells_of) := ⟨rfl, rfl, rfl, by decide +kernel, rfl, by decide +kernel, by decide +kernel⟩
theorem ok_cells_of {f : Addr} {dV : Value} {fd : FuncData} (F : FunV K "cells_of" "cells_of" s_cells_of dV f fd) (z_range : mg "range" = none) (c_block_of : Cal P w K mg base 1 "block_of" [] sp_block_of) : FnG P w K mg base 2 f fd ["code"] sp_cells_of :=
  okG F sc_cells_of len_cells_of mono_cells_of (fun cdv A outer s S0 H0 E Q Ep xs => by
    intro X hr hgu hE h
    exact ⟨b_cells_of, pzs_cons (pz_tgt (t := .tp [.nm 1, .nm 2, .nm 3]) (pv_cal c_block_of (hr.mono (by decide)) hgu (pvs_cons (pv_var 0) (pvs_nil))) (pgt_tup rfl (pgt_cons (pgt_name 1 sc_cells_of.nd) (pgt_cons (pgt_name 2 sc_cells_of.nd) (pgt_cons (pgt_name 3 sc_cells_of.nd) (pgt_nil)))))) (pzs_one (pz_ret (pv_lc2 [("here", 4), ("there", 5)] [5] rfl sc_cells_of.nd (pit_range2 z_range (pvs_cons (pv_var 1) (pvs_cons (pv_add (pv_var 1) (pv_var 3)) (pvs_nil)))) (blkOk_by (N := n_cells_of) (sc := defScope s_cells_of) (by decide +kernel)) (fun _ _ _ _ _ => pgt_name 4 sc_cells_of.nd) (fun _ _ _ _ _ => pbs_nil) (fun _ _ _ _ _ => pit_range2 z_range (pvs_cons (pv_var 2) (pvs_cons (pv_add (pv_var 2) (pv_var 3)) (pvs_nil)))) (fun _ _ _ _ _ => pgt_name 5 sc_cells_of.nd) (fun _ _ _ _ _ => pbs_nil) (fun _ _ _ _ _ => pv_tup (pvs_cons (pv_var 4) (pvs_cons (pv_var 5) (pvs_nil))))))), ex_cells_of h⟩)
abbrev s_owners_by : Stmt := topS 27
abbrev n_owners_by : List Str := ["moves", "day", "found", "since", "codes", "region", "cell", "code"]
theorem sc_owners_by : FnScope n_owners_by ["moves", "day"] (defScope s_owners_by) := ⟨rfl, rfl, rfl, by decide +kernel, rfl, by decide +kernel, by decide +kernel⟩
theorem ok_owners_by {f : Addr} {dV : Value} {fd : FuncData} (F : FunV K "owners_by" "owners_by" s_owners_by dV f fd) (g_NOBODY : ∃ u, mg "NOBODY" = some u ∧ KRep K v_NOBODY u) (c_cells_of : Cal P w K mg base 2 "cells_of" [] sp_cells_of) : FnG P w K mg base 3 f fd ["moves", "day"] sp_owners_by :=
  okG F sc_owners_by len_owners_by mono_owners_by (fun cdv A outer s S0 H0 E Q Ep xs => by
    intro X hr hgu hE h
    have hps : PassesOwn (model X.prog X.w) X.A X.env X.xe := passes_of rfl
    obtain ⟨u_NOBODY, g_NOBODY⟩ := g_NOBODY
    exact ⟨b_owners_by, pzs_cons (pz_setDcN 2 [("cell", 6)] (hu64 hr) rfl sc_owners_by.nd (pit_val (pv_cal c_cells_of (hr.mono (by decide)) hgu (pvs_cons (pv_str) (pvs_nil)))) (blkOk_by (N := n_owners_by) (sc := defScope s_owners_by) (by decide +kernel)) (fun _ _ _ _ _ => pgt_name 6 sc_owners_by.nd) (fun _ _ _ _ _ => pbs_nil) (fun _ _ _ _ _ => pv_var 6) (fun _ _ _ _ _ => pv_glob (by rfl) g_NOBODY.1 g_NOBODY.2) (sw_trueD rfl rfl rfl (by decide +kernel))) (pzs_cons (pz_beg [3, 4, 5] (pz_for hps rfl (pit_val (pv_var 0)) (pgt_tup rfl (pgt_cons (pgt_name 3 sc_owners_by.nd) (pgt_cons (pgt_name 4 sc_owners_by.nd) (pgt_cons (pgt_name 5 sc_owners_by.nd) (pgt_nil))))) (pzs_end [3, 4, 5] (pzs_one (pz_if (pb_cmp (opLe (hu64 hr)) sim_cmp (pv_var 3) (pv_var 1) (nomark _)) (pzs_one (pz_expr (pv_updN (hu64 hr) (pv_var 2) (pvs_cons (pv_dcN2 [("code", 7), ("cell", 6)] [6] (hu64 hr) rfl sc_owners_by.nd (pit_val (pv_var 4)) (blkOk_by (N := n_owners_by) (sc := defScope s_owners_by) (by decide +kernel)) (fun _ _ _ _ _ => pgt_name 7 sc_owners_by.nd) (fun _ _ _ _ _ => pbs_nil) (fun _ _ _ _ _ => pit_val (pv_cal c_cells_of (hr.mono (by decide)) hgu (pvs_cons (pv_var 7) (pvs_nil)))) (fun _ _ _ _ _ => pgt_name 6 sc_owners_by.nd) (fun _ _ _ _ _ => pbs_nil) (fun _ _ _ _ _ => pv_var 6) (fun _ _ _ _ _ => pv_var 5)) (pvs_nil))))) (pzs_nil)))))) (pzs_one (pz_ret (pv_var 2)))), ex_owners_by h⟩)
abbrev s_codes_of : Stmt := topS 28
abbrev n_codes_of : List Str := ["cells", "code", "own", "cell", "figure", "found"]
theorem sc_codes_of : FnScope n_codes_of ["cells", "code"] (defScope s_codes_of) := ⟨rfl, rfl, rfl, by decide +kernel, rfl, by decide +kernel, by decide +kernel⟩
theorem ok_codes_of {f : Addr} {dV : Value} {fd : FuncData} (F : FunV K "codes_of" "codes_of" s_codes_of dV f fd) (hb : Binds K fd ["cells", "code"] []) (hf : mg "codes_of" = some (.ref f)) (z_all : mg "all" = none) (z_any : mg "any" = none) (c_cells_of : Cal P w K mg base 2 "cells_of" [] sp_cells_of) : ∀ n, FnG P w K mg base (3 + n) f fd ["cells", "code"] (sp_codes_of n)
  | 0 => fng_never
  | n + 1 => okG F sc_codes_of (len_codes_of (n + 1)) (mono_codes_of (n + 1)) (fun cdv A outer s S0 H0 E Q Ep xs => by
    intro X hr hgu hE h
    have c_codes_of : Cal P w K mg base (3 + n) "codes_of" [] (sp_codes_of n) := ⟨⟨f, _, _, [], [], hf, F.kp, hb, .nil, fun _ _ => rfl, ok_codes_of F hb hf z_all z_any c_cells_of n⟩⟩
    exact ⟨b_codes_of n, pzs_cons (pz_setLc 2 [("cell", 3)] rfl sc_codes_of.nd (pit_val (pv_cal c_cells_of (hr.mono (by simp only [Nat.add_eq]; omega)) hgu (pvs_cons (pv_var 1) (pvs_nil)))) (blkOk_by (N := n_codes_of) (sc := defScope s_codes_of) (by decide +kernel)) (fun _ _ _ _ _ => pgt_name 3 sc_codes_of.nd) (fun _ _ _ _ _ => pbs_nil) (fun _ _ _ _ _ => pv_cmp (op_inN (hu65 hr)) sim_inN (pv_var 3) (pv_var 0) (by rfl)) (sw_true rfl rfl rfl (by decide +kernel))) (pzs_cons (pz_if (pb_val (pv_all rfl z_all (pvs_cons (pv_var 2) (pvs_nil)))) (pzs_one (pz_ret (pv_lst (pvs_cons (pv_var 1) (pvs_nil))))) (pzs_nil)) (pzs_cons (pz_if (pb_not (pb_val (pv_any rfl z_any (pvs_cons (pv_var 2) (pvs_nil))))) (pzs_one (pz_ret (pv_lst (pvs_nil)))) (pzs_nil)) (pzs_one (pz_ret (pv_lc2 [("figure", 4), ("found", 5)] [5] rfl sc_codes_of.nd (pit_val (pv_str)) (blkOk_by (N := n_codes_of) (sc := defScope s_codes_of) (by decide +kernel)) (fun _ _ _ _ _ => pgt_name 4 sc_codes_of.nd) (fun _ _ _ _ _ => pbs_nil) (fun _ _ _ _ _ => pit_val (pv_cal c_codes_of (hr.mono (by simp only [Nat.add_eq]; omega)) hgu (pvs_cons (pv_var 0) (pvs_cons (pv_add (pv_var 1) (pv_var 4)) (pvs_nil))))) (fun _ _ _ _ _ => pgt_name 5 sc_codes_of.nd) (fun _ _ _ _ _ => pbs_nil) (fun _ _ _ _ _ => pv_var 5)))))), ex_codes_of h⟩)
abbrev s_changed : Stmt := topS 29
abbrev n_changed : List Str := ["moves", "day", "other_day", "ahead", "behind", "turned", "cell", "region", "pair", "cells", "code"]
theorem sc_changed : FnScope n_changed ["moves", "day", "other_day"] (defScope s_changed) := ⟨rfl, rfl, rfl, by decide +kernel, rfl, by decide +kernel, by decide +kernel⟩
theorem ok_changed {f : Addr} {dV : Value} {fd : FuncData} (F : FunV K "changed" "changed" s_changed dV f fd) (z_sorted : mg "sorted" = none) (c_need_moves : Cal P w K mg base 4 "need_moves" [] sp_need_moves) (c_owners_by : Cal P w K mg base 3 "owners_by" [] sp_owners_by) (c_codes_of_1 : Cal P w K mg base 9 "codes_of" [.str ""] (sp_codes_of 6)) (c_need_day_1 : Cal P w K mg base 3 "need_day" [.int 0] sp_need_day) : FnG P w K mg base 10 f fd ["moves", "day", "other_day"] sp_changed :=
  okG F sc_changed len_changed mono_changed (fun cdv A outer s S0 H0 E Q Ep xs => by
    intro X hr hgu hE h
    have hps : PassesOwn (model X.prog X.w) X.A X.env X.xe := passes_of rfl
    exact ⟨b_changed w, pzs_cons (pz_expr (pv_cal c_need_moves (hr.mono (by decide)) hgu (pvs_cons (pv_var 0) (pvs_nil)))) (pzs_cons (pz_expr (pv_cal c_need_day_1 (hr.mono (by decide)) hgu (pvs_cons (pv_var 1) (pvs_nil)))) (pzs_cons (pz_expr (pv_cal c_need_day_1 (hr.mono (by decide)) hgu (pvs_cons (pv_var 2) (pvs_nil)))) (pzs_cons (pz_par3 3 4 5 rfl sc_changed.nd (pvs_cons (pv_cal c_owners_by (hr.mono (by decide)) hgu (pvs_cons (pv_var 0) (pvs_cons (pv_var 1) (pvs_nil)))) (pvs_cons (pv_cal c_owners_by (hr.mono (by decide)) hgu (pvs_cons (pv_var 0) (pvs_cons (pv_var 2) (pvs_nil)))) (pvs_cons (pv_dictW (w := w)) (pvs_nil))))) (pzs_cons (pz_beg [6, 7] (pz_for hps rfl (pit_itemsN (pv_var 3)) (pgt_tup rfl (pgt_cons (pgt_name 6 sc_changed.nd) (pgt_cons (pgt_name 7 sc_changed.nd) (pgt_nil)))) (pzs_end [6, 7] (pzs_one (pz_if (pb_cmp (opNe (hu64 hr)) sim_ne (pv_nget (hu64 hr) (pv_var 4) (pv_var 6)) (pv_var 7) (nomark _)) (pzs_one (pz_putN (hu64 hr) (pv_bl) (pv_setdW (hu64 hr) (pv_var 5) (pv_tup (pvs_cons (pv_var 7) (pvs_cons (pv_nget (hu64 hr) (pv_var 4) (pv_var 6)) (pvs_nil)))) (pv_dictN)) (pv_var 6))) (pzs_nil)))))) (pzs_one (pz_ret (pv_sortedT (hu64 hr) z_sorted (pvs_cons (pv_lc2 [("pair", 8), ("cells", 9), ("code", 10)] [10] rfl sc_changed.nd (pit_itemsW (wo := w) (pv_var 5)) (blkOk_by (N := n_changed) (sc := defScope s_changed) (by decide +kernel)) (fun _ _ _ _ _ => pgt_tup rfl (pgt_cons (pgt_name 8 sc_changed.nd) (pgt_cons (pgt_name 9 sc_changed.nd) (pgt_nil)))) (fun _ _ _ _ _ => pbs_nil) (fun _ _ _ _ _ => pit_val (pv_cal c_codes_of_1 (hr.mono (by decide)) hgu (pvs_cons (pv_var 9) (pvs_nil)))) (fun _ _ _ _ _ => pgt_name 10 sc_changed.nd) (fun _ _ _ _ _ => pbs_nil) (fun _ _ _ _ _ => pv_add (pv_tup (pvs_cons (pv_var 10) (pvs_nil))) (pv_var 8))) (pvs_nil))))))))), ex_changed h⟩)
abbrev s__law_cell : Stmt := topS 31
abbrev n__law_cell : List Str := ["_law_script", "_law_k"]
theorem sc__law_cell : FnScope n__law_cell ["_law_script", "_law_k"] (defScope s__law_cell) := ⟨rfl, rfl, rfl, by decide +kernel, rfl, by decide +kernel, by decide +kernel⟩
theorem ok__law_cell {f : Addr} {dV : Value} {fd : FuncData} (F : FunV K "_law_cell" "_law_cell" s__law_cell dV f fd) (z_len : mg "len" = none) : FnG P w K mg base 1 f fd ["_law_script", "_law_k"] sp__law_cell :=
  okG F sc__law_cell len__law_cell mono__law_cell (fun cdv A outer s S0 H0 E Q Ep xs => by
    intro X hr hgu hE h
    exact ⟨b__law_cell, pzs_cons (pz_if (pb_cmp (opLt (hu64 hr)) sim_cmp (pv_var 1) (pv_len z_len (pvs_cons (pv_var 0) (pvs_nil))) (nomark _)) (pzs_one (pz_ret (pv_ix (pv_var 0) (pv_var 1)))) (pzs_nil)) (pzs_one (pz_ret (pv_int))), ex__law_cell h⟩)
abbrev s__law_pen : Stmt := topS 32
abbrev n__law_pen : List Str := ["_law_cell_here", "_law_more"]
theorem sc__law_pen : FnScope n__law_pen ["_law_cell_here"] (defScope s__law_pen) := ⟨rfl, rfl, rfl, by decide +kernel, rfl, by decide +kernel, by decide +kernel⟩
theorem ok__law_pen {f : Addr} {dV : Value} {fd : FuncData} (F : FunV K "_law_pen" "_law_pen" s__law_pen dV f fd) (z_int : mg "int" = none) (z_max : mg "max" = none) : FnG P w K mg base 1 f fd ["_law_cell_here"] sp__law_pen :=
  okG F sc__law_pen len__law_pen mono__law_pen (fun cdv A outer s S0 H0 E Q Ep xs => by
    intro X hr hgu hE h
    exact ⟨b__law_pen, pzs_cons (pz_set 1 sc__law_pen.nd (pv_max rfl z_max (pvs_cons (pv_var 0) (pvs_cons (pv_sub (pv_int) (pv_var 0)) (pvs_nil))))) (pzs_one (pz_ret (pv_lstT (pvs_cons (pv_var 1) (pvs_cons (pv_intOf z_int (pvs_cons (pv_cmp (opGe (hu64 hr)) sim_cmp (pv_var 1) (pv_pow (pv_int) (pv_int)) (nomark _)) (pvs_nil))) (pvs_nil)))))), ex__law_pen h⟩)
abbrev s__law_draw : Stmt := topS 33
abbrev n__law_draw : List Str := ["_law_pen_here", "_law_many", "_law_rest", "_law_drawn", "_law_stir"]
theorem sc__law_draw : FnScope n__law_draw ["_law_pen_here", "_law_many"] (defScope s__law_draw) := ⟨rfl, rfl, rfl, by decide +kernel, rfl, by decide +kernel, by decide +kernel⟩
theorem ok__law_draw {f : Addr} {dV : Value} {fd : FuncData} (F : FunV K "_law_draw" "_law_draw" s__law_draw dV f fd) (z_divmod : mg "divmod" = none) : FnG P w K mg base 1 f fd ["_law_pen_here", "_law_many"] sp__law_draw :=
  okG F sc__law_draw len__law_draw mono__law_draw (fun cdv A outer s S0 H0 E Q Ep xs => by
    intro X hr hgu hE h
    exact ⟨b__law_draw, pzs_cons (pz_if (pb_cmp (opEq (hu64 hr)) sim_eq (pv_ix (pv_var 0) (pv_int)) (pv_int) (nomark _)) (pzs_cons (pz_tgt (t := .tp [.nm 2, .nm 3]) (pv_divmod z_divmod (pvs_cons (pv_ix (pv_var 0) (pv_int)) (pvs_cons (pv_var 1) (pvs_nil)))) (pgt_tup rfl (pgt_cons (pgt_name 2 sc__law_draw.nd) (pgt_cons (pgt_name 3 sc__law_draw.nd) (pgt_nil))))) (pzs_cons (pz_setIx (pv_var 2) (pv_var 0) (pv_int)) (pzs_one (pz_ret (pv_var 3))))) (pzs_nil)) (pzs_cons (pz_set 4 sc__law_draw.nd (pv_mod (pv_mul (pv_add (pv_mod (pv_ix (pv_var 0) (pv_int)) (pv_int)) (pv_int)) (pv_int)) (pv_int))) (pzs_cons (pz_set 4 sc__law_draw.nd (pv_mod (pv_add (pv_mul (pv_var 4) (pv_var 4)) (pv_int)) (pv_int))) (pzs_cons (pz_setIx (pv_mod (pv_add (pv_mul (pv_var 4) (pv_int)) (pv_int)) (pv_int)) (pv_var 0) (pv_int)) (pzs_one (pz_ret (pv_mod (pv_div (pv_ix (pv_var 0) (pv_int)) (pv_int)) (pv_var 1))))))), ex__law_draw h⟩)
abbrev s__law_code : Stmt := topS 34
abbrev n__law_code : List Str := ["_law_pen_here", "_law_many", "_law_again"]
theorem sc__law_code : FnScope n__law_code ["_law_pen_here"] (defScope s__law_code) := ⟨rfl, rfl, rfl, by decide +kernel, rfl, by decide +kernel, by decide +kernel⟩
theorem ok__law_code {f : Addr} {dV : Value} {fd : FuncData} (F : FunV K "_law_code" "_law_code" s__law_code dV f fd) (z_range : mg "range" = none) (c__law_draw : Cal P w K mg base 1 "_law_draw" [] sp__law_draw) : FnG P w K mg base 2 f fd ["_law_pen_here"] sp__law_code :=
  okG F sc__law_code len__law_code mono__law_code (fun cdv A outer s S0 H0 E Q Ep xs => by
    intro X hr hgu hE h
    exact ⟨b__law_code, pzs_cons (pz_set 1 sc__law_code.nd (pv_ix (pv_lst (pvs_cons (pv_int) (pvs_cons (pv_int) (pvs_cons (pv_int) (pvs_cons (pv_int) (pvs_cons (pv_int) (pvs_cons (pv_int) (pvs_cons (pv_int) (pvs_cons (pv_int) (pvs_cons (pv_int) (pvs_nil))))))))))) (pv_cal c__law_draw (hr.mono (by decide)) hgu (pvs_cons (pv_var 0) (pvs_cons (pv_int) (pvs_nil)))))) (pzs_one (pz_ret (pv_join (pv_str) (pv_lc [("_law_again", 2)] rfl sc__law_code.nd (pit_range1 z_range (pvs_cons (pv_var 1) (pvs_nil))) (blkOk_by (N := n__law_code) (sc := defScope s__law_code) (by decide +kernel)) (fun _ _ _ _ _ => pgt_name 2 sc__law_code.nd) (fun _ _ _ _ _ => pbs_nil) (fun _ _ _ _ _ => pv_ix (pv_str) (pv_cal c__law_draw (hr.mono (by decide)) hgu (pvs_cons (pv_var 0) (pvs_cons (pv_int) (pvs_nil))))))))), ex__law_code h⟩)
abbrev s__law_codes : Stmt := topS 35
abbrev n__law_codes : List Str := ["_law_pen_here", "_law_got", "_law_again", "_law_code_here", "_law_one"]
theorem sc__law_codes : FnScope n__law_codes ["_law_pen_here"] (defScope s__law_codes) := ⟨rfl, rfl, rfl, by decide +kernel, rfl, by decide +kernel, by decide +kernel⟩
theorem ok__law_codes {f : Addr} {dV : Value} {fd : FuncData} (F : FunV K "_law_codes" "_law_codes" s__law_codes dV f fd) (z_range : mg "range" = none) (z_sorted : mg "sorted" = none) (z_tuple : mg "tuple" = none) (c__law_code : Cal P w K mg base 2 "_law_code" [] sp__law_code) (c__law_draw : Cal P w K mg base 1 "_law_draw" [] sp__law_draw) : FnG P w K mg base 3 f fd ["_law_pen_here"] sp__law_codes :=
  okG F sc__law_codes len__law_codes mono__law_codes (fun cdv A outer s S0 H0 E Q Ep xs => by
    intro X hr hgu hE h
    have hps : PassesOwn (model X.prog X.w) X.A X.env X.xe := passes_of rfl
    exact ⟨b__law_codes, pzs_cons (pz_set 1 sc__law_codes.nd (pv_lstT (pvs_cons (pv_cal c__law_code (hr.mono (by decide)) hgu (pvs_cons (pv_var 0) (pvs_nil))) (pvs_nil)))) (pzs_cons (pz_beg [2, 3] (pz_for hps rfl (pit_range1 z_range (pvs_cons (pv_cal c__law_draw (hr.mono (by decide)) hgu (pvs_cons (pv_var 0) (pvs_cons (pv_int) (pvs_nil)))) (pvs_nil))) (pgt_name 2 sc__law_codes.nd) (pzs_end [2, 3] (pzs_cons (pz_set 3 sc__law_codes.nd (pv_cal c__law_code (hr.mono (by decide)) hgu (pvs_cons (pv_var 0) (pvs_nil)))) (pzs_one (pz_if (pb_cmp (opEq (hu64 hr)) sim_eq (pv_lc [("_law_one", 4)] rfl sc__law_codes.nd (pit_val (pv_var 1)) (blkOk_by (N := n__law_codes) (sc := defScope s__law_codes) (by decide +kernel)) (fun _ _ _ _ _ => pgt_name 4 sc__law_codes.nd) (fun _ _ _ _ _ => pbs_one (PBw.pb (pbw_or (pb_val (pv_starts (pv_var 4) (pv_var 3))) (pbw_or1 (pb_val (pv_starts (pv_var 3) (pv_var 4))))))) (fun _ _ _ _ _ => pv_var 4)) (pv_lst (pvs_nil)) (nomark _)) (pzs_one (pz_expr (pv_append (pv_var 1) (pvs_cons (pv_var 3) (pvs_nil))))) (pzs_nil))))))) (pzs_one (pz_ret (pv_tupleOf z_tuple (pvs_cons (pv_sorted (hu64 hr) z_sorted (pvs_cons (pv_var 1) (pvs_nil))) (pvs_nil)))))), ex__law_codes h⟩)
abbrev s__law_words : Stmt := topS 36
abbrev n__law_words : List Str := []
theorem sc__law_words : FnScope n__law_words [] (defScope s__law_words) := ⟨rfl, rfl, rfl, by decide +kernel, rfl, by decide +kernel, by decide +kernel⟩
theorem ok__law_words {f : Addr} {dV : Value} {fd : FuncData} (F : FunV K "_law_words" "_law_words" s__law_words dV f fd) : FnG P w K mg base 1 f fd [] sp__law_words :=
  okG F sc__law_words len__law_words mono__law_words (fun cdv A outer s S0 H0 E Q Ep xs => by
    intro X hr hgu hE h
    exact ⟨b__law_words, pzs_one (pz_ret (pv_lst (pvs_cons (pv_str) (pvs_cons (pv_str) (pvs_cons (pv_str) (pvs_cons (pv_str) (pvs_cons (pv_str) (pvs_nil)))))))), ex__law_words h⟩)
abbrev s__law_moves : Stmt := topS 37
abbrev n__law_moves : List Str := ["_law_pen_here", "_law_many", "_law_day", "_law_got", "_law_again"]
theorem sc__law_moves : FnScope n__law_moves ["_law_pen_here", "_law_many"] (defScope s__law_moves) := ⟨rfl, rfl, rfl, by decide +kernel, rfl, by decide +kernel, by decide +kernel⟩
theorem ok__law_moves {f : Addr} {dV : Value} {fd : FuncData} (F : FunV K "_law_moves" "_law_moves" s__law_moves dV f fd) (z_min : mg "min" = none) (z_range : mg "range" = none) (z_tuple : mg "tuple" = none) (c__law_codes : Cal P w K mg base 3 "_law_codes" [] sp__law_codes) (c__law_draw : Cal P w K mg base 1 "_law_draw" [] sp__law_draw) (kc__law_words : CalK P w K mg base 1 "_law_words" [] [] sp__law_words) : FnG P w K mg base 4 f fd ["_law_pen_here", "_law_many"] sp__law_moves :=
  okG F sc__law_moves len__law_moves mono__law_moves (fun cdv A outer s S0 H0 E Q Ep xs => by
    intro X hr hgu hE h
    have hps : PassesOwn (model X.prog X.w) X.A X.env X.xe := passes_of rfl
    exact ⟨b__law_moves, pzs_cons (pz_par 2 3 rfl sc__law_moves.nd (pvs_cons (pv_ix (pv_lst (pvs_cons (pv_int) (pvs_cons (pv_cal c__law_draw (hr.mono (by decide)) hgu (pvs_cons (pv_var 0) (pvs_cons (pv_int) (pvs_nil)))) (pvs_nil)))) (pv_cal c__law_draw (hr.mono (by decide)) hgu (pvs_cons (pv_var 0) (pvs_cons (pv_int) (pvs_nil))))) (pvs_cons (pv_lstT (pvs_nil)) (pvs_nil)))) (pzs_cons (pz_beg [4] (pz_for hps rfl (pit_range1 z_range (pvs_cons (pv_cal c__law_draw (hr.mono (by decide)) hgu (pvs_cons (pv_var 0) (pvs_cons (pv_add (pv_var 1) (pv_int)) (pvs_nil)))) (pvs_nil))) (pgt_name 4 sc__law_moves.nd) (pzs_end [4] (pzs_cons (pz_expr (pv_append (pv_var 3) (pvs_cons (pv_tup (pvs_cons (pv_var 2) (pvs_cons (pv_cal c__law_codes (hr.mono (by decide)) hgu (pvs_cons (pv_var 0) (pvs_nil))) (pvs_cons (pv_ix (pv_calK kc__law_words (hr.mono (by decide)) hgu (pks_nil)) (pv_cal c__law_draw (hr.mono (by decide)) hgu (pvs_cons (pv_var 0) (pvs_cons (pv_int) (pvs_nil))))) (pvs_nil))))) (pvs_nil)))) (pzs_one (pz_set 2 sc__law_moves.nd (pv_add (pv_var 2) (pv_ix (pv_lst (pvs_cons (pv_int) (pvs_cons (pv_int) (pvs_cons (pv_int) (pvs_cons (pv_cal c__law_draw (hr.mono (by decide)) hgu (pvs_cons (pv_var 0) (pvs_cons (pv_int) (pvs_nil)))) (pvs_cons (pv_pow (pv_int) (pv_int)) (pvs_nil))))))) (pv_min rfl z_min (pvs_cons (pv_int) (pvs_cons (pv_div (pv_cal c__law_draw (hr.mono (by decide)) hgu (pvs_cons (pv_var 0) (pvs_cons (pv_int) (pvs_nil)))) (pv_int)) (pvs_nil)))))))))))) (pzs_one (pz_ret (pv_tupleOf z_tuple (pvs_cons (pv_var 3) (pvs_nil)))))), ex__law_moves h⟩)
abbrev s__law_days : Stmt := topS 38
abbrev n__law_days : List Str := ["_law_pen_here", "_law_moves_here", "_law_got", "_law_again", "_law_day"]
theorem sc__law_days : FnScope n__law_days ["_law_pen_here", "_law_moves_here"] (defScope s__law_days) := ⟨rfl, rfl, rfl, by decide +kernel, rfl, by decide +kernel, by decide +kernel⟩
theorem ok__law_days {f : Addr} {dV : Value} {fd : FuncData} (F : FunV K "_law_days" "_law_days" s__law_days dV f fd) (z_len : mg "len" = none) (z_list : mg "list" = none) (z_max : mg "max" = none) (z_range : mg "range" = none) (z_sorted : mg "sorted" = none) (c__law_draw : Cal P w K mg base 1 "_law_draw" [] sp__law_draw) : FnG P w K mg base 2 f fd ["_law_pen_here", "_law_moves_here"] sp__law_days :=
  okG F sc__law_days len__law_days mono__law_days (fun cdv A outer s S0 H0 E Q Ep xs => by
    intro X hr hgu hE h
    have hps : PassesOwn (model X.prog X.w) X.A X.env X.xe := passes_of rfl
    exact ⟨b__law_days, pzs_cons (pz_set 2 sc__law_days.nd (pv_dispT (pds_cons (pv_int) (pv_int) (pds_cons (pv_pow (pv_int) (pv_int)) (pv_int) (pds_nil))))) (pzs_cons (pz_beg [3, 4] (pz_for hps rfl (pit_range1 z_range (pvs_cons (pv_int) (pvs_nil))) (pgt_name 3 sc__law_days.nd) (pzs_end [3, 4] (pzs_one (pz_if (pb_cmp (opNe (hu64 hr)) sim_ne (pv_var 1) (pv_tup (pvs_nil)) (nomark _)) (pzs_cons (pz_set 4 sc__law_days.nd (pv_ix (pv_ix (pv_var 1) (pv_cal c__law_draw (hr.mono (by decide)) hgu (pvs_cons (pv_var 0) (pvs_cons (pv_len z_len (pvs_cons (pv_var 1) (pvs_nil))) (pvs_nil))))) (pv_int))) (pzs_one (pz_expr (pv_updD (pv_var 2) (pvs_cons (pv_disp (pds_cons (pv_var 4) (pv_int) (pds_cons (pv_max rfl z_max (pvs_cons (pv_int) (pvs_cons (pv_sub (pv_var 4) (pv_int)) (pvs_nil)))) (pv_int) (pds_cons (pv_add (pv_var 4) (pv_int)) (pv_int) (pds_nil))))) (pvs_nil)))))) (pzs_nil)))))) (pzs_one (pz_ret (pv_sorted (hu64 hr) z_sorted (pvs_cons (pv_listD rfl z_list (pvs_cons (pv_var 2) (pvs_nil))) (pvs_nil)))))), ex__law_days h⟩)
abbrev s__law_all : Stmt := topS 39
abbrev n__law_all : List Str := ["_law_got", "_law_again", "_law_longer", "_law_code_here", "_law_figure"]
theorem sc__law_all : FnScope n__law_all [] (defScope s__law_all) := ⟨rfl, rfl, rfl, by decide +kernel, rfl, by decide +kernel, by decide +kernel⟩
theorem ok__law_all {f : Addr} {dV : Value} {fd : FuncData} (F : FunV K "_law_all" "_law_all" s__law_all dV f fd) (z_range : mg "range" = none) : FnG P w K mg base 1 f fd [] sp__law_all :=
  okG F sc__law_all len__law_all mono__law_all (fun cdv A outer s S0 H0 E Q Ep xs => by
    intro X hr hgu hE h
    have hps : PassesOwn (model X.prog X.w) X.A X.env X.xe := passes_of rfl
    exact ⟨b__law_all, pzs_cons (pz_set 0 sc__law_all.nd (pv_lst (pvs_cons (pv_str) (pvs_nil)))) (pzs_cons (pz_beg [1, 2, 3] (pz_for hps rfl (pit_range1 z_range (pvs_cons (pv_int) (pvs_nil))) (pgt_name 1 sc__law_all.nd) (pzs_end [1, 2, 3] (pzs_cons (pz_set 2 sc__law_all.nd (pv_lst (pvs_nil))) (pzs_cons (pz_beg [3] (pz_for hps rfl (pit_val (pv_var 0)) (pgt_name 3 sc__law_all.nd) (pzs_end [3] (pzs_one (pz_set 2 sc__law_all.nd (pv_add (pv_var 2) (pv_lc [("_law_figure", 4)] rfl sc__law_all.nd (pit_val (pv_str)) (blkOk_by (N := n__law_all) (sc := defScope s__law_all) (by decide +kernel)) (fun _ _ _ _ _ => pgt_name 4 sc__law_all.nd) (fun _ _ _ _ _ => pbs_nil) (fun _ _ _ _ _ => pv_add (pv_var 3) (pv_var 4))))))))) (pzs_one (pz_set 0 sc__law_all.nd (pv_var 2)))))))) (pzs_one (pz_ret (pv_var 0)))), ex__law_all h⟩)
abbrev s__law_owners : Stmt := topS 40
abbrev n__law_owners : List Str := ["_law_moves_here", "_law_day", "_law_got", "_law_cell_here", "_law_since", "_law_codes_here", "_law_region", "_law_heads", "_law_code_here"]
theorem sc__law_owners : FnScope n__law_owners ["_law_moves_here", "_law_day"] (defScope s__law_owners) := ⟨rfl, rfl, rfl, by decide +kernel, rfl, by decide +kernel, by decide +kernel⟩
theorem ok__law_owners {f : Addr} {dV : Value} {fd : FuncData} (F : FunV K "_law_owners" "_law_owners" s__law_owners dV f fd) (kc__law_all : CalK P w K mg base 1 "_law_all" [] [] sp__law_all) : FnG P w K mg base 2 f fd ["_law_moves_here", "_law_day"] sp__law_owners :=
  okG F sc__law_owners len__law_owners mono__law_owners (fun cdv A outer s S0 H0 E Q Ep xs => by
    intro X hr hgu hE h
    have hps : PassesOwn (model X.prog X.w) X.A X.env X.xe := passes_of rfl
    exact ⟨b__law_owners, pzs_cons (pz_set 2 sc__law_owners.nd (pv_dictT)) (pzs_cons (pz_beg [3, 4, 5, 6, 7] (pz_for hps rfl (pit_val (pv_calK kc__law_all (hr.mono (by decide)) hgu (pks_nil))) (pgt_name 3 sc__law_owners.nd) (pzs_end [3, 4, 5, 6, 7] (pzs_cons (pz_putG (hu64 hr) (pv_str) (pv_var 2) (pv_var 3)) (pzs_one (pz_beg [4, 5, 6, 7] (pz_for hps rfl (pit_val (pv_var 0)) (pgt_tup rfl (pgt_cons (pgt_name 4 sc__law_owners.nd) (pgt_cons (pgt_name 5 sc__law_owners.nd) (pgt_cons (pgt_name 6 sc__law_owners.nd) (pgt_nil))))) (pzs_end [4, 5, 6, 7] (pzs_cons (pz_setLc 7 [("_law_code_here", 8)] rfl sc__law_owners.nd (pit_val (pv_var 5)) (blkOk_by (N := n__law_owners) (sc := defScope s__law_owners) (by decide +kernel)) (fun _ _ _ _ _ => pgt_name 8 sc__law_owners.nd) (fun _ _ _ _ _ => pbs_one (pb_val (pv_starts (pv_var 3) (pv_var 8)))) (fun _ _ _ _ _ => pv_var 8) (sw_true rfl rfl rfl (by decide +kernel))) (pzs_one (pz_if (PBw.pb (pbw_and (pb_cmp (opLe (hu64 hr)) sim_cmp (pv_var 4) (pv_var 1) (nomark _)) (pbw_and1 (pb_cmp (opNe (hu64 hr)) sim_ne (pv_var 7) (pv_lst (pvs_nil)) (nomark _))))) (pzs_one (pz_putG (hu64 hr) (pv_var 6) (pv_var 2) (pv_var 3))) (pzs_nil)))))))))))) (pzs_one (pz_ret (pv_var 2)))), ex__law_owners h⟩)
abbrev s__law_merged : Stmt := topS 41
abbrev n__law_merged : List Str := ["_law_cells", "_law_got", "_law_many", "_law_heads", "_law_code_here", "_law_four", "_law_stay", "_law_cell_here", "_law_one", "_law_figure"]
theorem sc__law_merged : FnScope n__law_merged ["_law_cells"] (defScope s__law_merged) := ⟨rfl, rfl, rfl, by decide +kernel, rfl, by decide +kernel, by decide +kernel⟩
theorem ok__law_merged {f : Addr} {dV : Value} {fd : FuncData} (F : FunV K "_law_merged" "_law_merged" s__law_merged dV f fd) (z_dict : mg "dict" = none) (z_len : mg "len" = none) (z_list : mg "list" = none) (z_set : mg "set" = none) (z_sorted : mg "sorted" = none) (z_tuple : mg "tuple" = none) : FnG P w K mg base 1 f fd ["_law_cells"] sp__law_merged :=
  okG F sc__law_merged len__law_merged mono__law_merged (fun cdv A outer s S0 H0 E Q Ep xs => by
    intro X hr hgu hE h
    have hps : PassesOwn (model X.prog X.w) X.A X.env X.xe := passes_of rfl
    exact ⟨b__law_merged, pzs_cons (pz_set 1 sc__law_merged.nd (pv_dictOfT rfl z_dict (pvs_cons (pv_lc [("_law_cell_here", 7)] rfl sc__law_merged.nd (pit_val (pv_var 0)) (blkOk_by (N := n__law_merged) (sc := defScope s__law_merged) (by decide +kernel)) (fun _ _ _ _ _ => pgt_name 7 sc__law_merged.nd) (fun _ _ _ _ _ => pbs_nil) (fun _ _ _ _ _ => pv_tup (pvs_cons (pv_var 7) (pvs_cons (pv_int) (pvs_nil))))) (pvs_nil)))) (pzs_cons (pz_beg [2, 3, 4, 5, 6] (pz_for hps rfl (pit_val (pv_tup (pvs_cons (pv_int) (pvs_cons (pv_int) (pvs_cons (pv_int) (pvs_cons (pv_int) (pvs_nil))))))) (pgt_name 2 sc__law_merged.nd) (pzs_end [2, 3, 4, 5, 6] (pzs_cons (pz_lockD 1 (pz_setLc 3 [("_law_one", 8)] rfl sc__law_merged.nd (pit_keysL (pv_var 1)) (blkOk_by (N := n__law_merged) (sc := defScope s__law_merged) (by decide +kernel)) (fun _ _ _ _ _ => pgt_name 8 sc__law_merged.nd) (fun _ _ _ _ _ => pbs_one (pb_cmp (opEq (hu64 hr)) sim_eq (pv_len z_len (pvs_cons (pv_var 8) (pvs_nil))) (pv_add (pv_var 2) (pv_int)) (nomark _))) (fun _ _ _ _ _ => pv_slice (pv_var 8) (pvo_none) (pvo_some (pv_var 2))) (sw_true rfl rfl rfl (by decide +kernel)))) (pzs_one (pz_beg [4, 5, 6] (pz_for hps rfl (pit_val (pv_sortedSet rfl (hu64 hr) z_sorted z_set (pvs_cons (pv_var 3) (pvs_nil)))) (pgt_name 4 sc__law_merged.nd) (pzs_end [4, 5, 6] (pzs_cons (pz_set 5 sc__law_merged.nd (pv_lc [("_law_figure", 9)] rfl sc__law_merged.nd (pit_val (pv_str)) (blkOk_by (N := n__law_merged) (sc := defScope s__law_merged) (by decide +kernel)) (fun _ _ _ _ _ => pgt_name 9 sc__law_merged.nd) (fun _ _ _ _ _ => pbs_nil) (fun _ _ _ _ _ => pv_add (pv_var 4) (pv_var 9)))) (pzs_one (pz_if (pb_cmp (opEq (hu64 hr)) sim_eq (pv_lc [("_law_one", 8)] rfl sc__law_merged.nd (pit_val (pv_var 5)) (blkOk_by (N := n__law_merged) (sc := defScope s__law_merged) (by decide +kernel)) (fun _ _ _ _ _ => pgt_name 8 sc__law_merged.nd) (fun _ _ _ _ _ => pbs_one (pb_cmp (opNotIn2 (hu65 hr)) sim_notIn2 (pv_var 8) (pv_var 1) (by rfl))) (fun _ _ _ _ _ => pv_var 8)) (pv_lst (pvs_nil)) (nomark _)) (pzs_cons (pz_lockD 1 (pz_setLc 6 [("_law_one", 8)] rfl sc__law_merged.nd (pit_keysL (pv_var 1)) (blkOk_by (N := n__law_merged) (sc := defScope s__law_merged) (by decide +kernel)) (fun _ _ _ _ _ => pgt_name 8 sc__law_merged.nd) (fun _ _ _ _ _ => pbs_one (pb_cmp (opNotIn2 (hu65 hr)) sim_notIn2 (pv_var 8) (pv_var 5) (by rfl))) (fun _ _ _ _ _ => pv_tup (pvs_cons (pv_var 8) (pvs_cons (pv_int) (pvs_nil)))) (sw_true rfl rfl rfl (by decide +kernel)))) (pzs_one (pz_set 1 sc__law_merged.nd (pv_dictOfT rfl z_dict (pvs_cons (pv_add (pv_var 6) (pv_lst (pvs_cons (pv_tup (pvs_cons (pv_var 4) (pvs_cons (pv_int) (pvs_nil)))) (pvs_nil)))) (pvs_nil)))))) (pzs_nil)))))))))))) (pzs_one (pz_ret (pv_tupleOf z_tuple (pvs_cons (pv_sorted (hu64 hr) z_sorted (pvs_cons (pv_listD rfl z_list (pvs_cons (pv_var 1) (pvs_nil))) (pvs_nil))) (pvs_nil)))))), ex__law_merged h⟩)
abbrev s__law_due : Stmt := topS 42
abbrev n__law_due : List Str := ["_law_moves_here", "_law_day", "_law_other", "_law_one", "_law_two", "_law_pairs", "_law_cell_here", "_law_pair", "_law_got", "_law_code_here"]
theorem sc__law_due : FnScope n__law_due ["_law_moves_here", "_law_day", "_law_other"] (defScope s__law_due) := ⟨rfl, rfl, rfl, by decide +kernel, rfl, by decide +kernel, by decide +kernel⟩
theorem ok__law_due {f : Addr} {dV : Value} {fd : FuncData} (F : FunV K "_law_due" "_law_due" s__law_due dV f fd) (z_sorted : mg "sorted" = none) (c__law_merged : Cal P w K mg base 1 "_law_merged" [] sp__law_merged) (c__law_owners : Cal P w K mg base 2 "_law_owners" [] sp__law_owners) : FnG P w K mg base 3 f fd ["_law_moves_here", "_law_day", "_law_other"] sp__law_due :=
  okG F sc__law_due len__law_due mono__law_due (fun cdv A outer s S0 H0 E Q Ep xs => by
    intro X hr hgu hE h
    have hps : PassesOwn (model X.prog X.w) X.A X.env X.xe := passes_of rfl
    exact ⟨b__law_due w, pzs_cons (pz_par3 3 4 5 rfl sc__law_due.nd (pvs_cons (pv_cal c__law_owners (hr.mono (by decide)) hgu (pvs_cons (pv_var 0) (pvs_cons (pv_var 1) (pvs_nil)))) (pvs_cons (pv_cal c__law_owners (hr.mono (by decide)) hgu (pvs_cons (pv_var 0) (pvs_cons (pv_var 2) (pvs_nil)))) (pvs_cons (pv_dictW (w := w)) (pvs_nil))))) (pzs_cons (pz_lockD 3 (pz_beg [6, 7] (pz_for hps rfl (pit_keysL (pv_var 3)) (pgt_name 6 sc__law_due.nd) (pzs_end [6, 7] (pzs_one (pz_if (pb_cmp (opNe (hu64 hr)) sim_ne (pv_dgetL (hu64 hr) (pv_var 3) (pv_var 6)) (pv_dgetI (hu64 hr) (pv_var 4) (pv_var 6)) (nomark _)) (pzs_cons (pz_set 7 sc__law_due.nd (pv_tup (pvs_cons (pv_dgetL (hu64 hr) (pv_var 3) (pv_var 6)) (pvs_cons (pv_dgetI (hu64 hr) (pv_var 4) (pv_var 6)) (pvs_nil))))) (pzs_one (pz_putW (hu64 hr) (pv_add (pv_wget2 (hu64 hr) (pv_var 5) (pv_var 7) (pv_lst (pvs_nil))) (pv_lst (pvs_cons (pv_var 6) (pvs_nil)))) (pv_var 5) (pv_var 7)))) (pzs_nil))))))) (pzs_cons (pz_set 8 sc__law_due.nd (pv_lst (pvs_nil))) (pzs_cons (pz_beg [7] (pz_for hps rfl (pit_keysW (wo := w) (pv_var 5)) (pgt_name 7 sc__law_due.nd) (pzs_end [7] (pzs_one (pz_set 8 sc__law_due.nd (pv_add (pv_var 8) (pv_lc [("_law_code_here", 9)] rfl sc__law_due.nd (pit_val (pv_cal c__law_merged (hr.mono (by decide)) hgu (pvs_cons (pv_wget (hu64 hr) (pv_var 5) (pv_var 7)) (pvs_nil)))) (blkOk_by (N := n__law_due) (sc := defScope s__law_due) (by decide +kernel)) (fun _ _ _ _ _ => pgt_name 9 sc__law_due.nd) (fun _ _ _ _ _ => pbs_nil) (fun _ _ _ _ _ => pv_add (pv_tup (pvs_cons (pv_var 9) (pvs_nil))) (pv_var 7))))))))) (pzs_one (pz_ret (pv_sorted (hu64 hr) z_sorted (pvs_cons (pv_var 8) (pvs_nil)))))))), ex__law_due h⟩)
abbrev s_law : Stmt := topS 43
abbrev n_law : List Str := ["_law_script", "_law_cell_here", "_law_pen_here", "_law_moves_here", "_law_stood", "_law_days_here", "_law_again", "_law_day", "_law_other", "_law_due_here", "_law_lap", "_law_told"]
theorem sc_law : FnScope n_law ["_law_script"] (defScope s_law) := ⟨rfl, rfl, rfl, by decide +kernel, rfl, by decide +kernel, by decide +kernel⟩
theorem ok_law {f : Addr} {dV : Value} {fd : FuncData} (F : FunV K "law" "law" s_law dV f fd) (z_len : mg "len" = none) (z_range : mg "range" = none) (z_repr : mg "repr" = none) (c__law_cell : Cal P w K mg base 1 "_law_cell" [] sp__law_cell) (c__law_days : Cal P w K mg base 2 "_law_days" [] sp__law_days) (c__law_draw : Cal P w K mg base 1 "_law_draw" [] sp__law_draw) (c__law_due : Cal P w K mg base 3 "_law_due" [] sp__law_due) (c__law_moves : Cal P w K mg base 4 "_law_moves" [] sp__law_moves) (c__law_pen : Cal P w K mg base 1 "_law_pen" [] sp__law_pen) (c_changed : Cal P w K mg base 10 "changed" [] sp_changed) : FnG P w K mg base 11 f fd ["_law_script"] sp_law :=
  okG F sc_law len_law mono_law (fun cdv A outer s S0 H0 E Q Ep xs => by
    intro X hr hgu hE h
    have hps : PassesOwn (model X.prog X.w) X.A X.env X.xe := passes_of rfl
    exact ⟨b_law, pzs_cons (pz_beg [1, 2, 3, 4, 5, 6, 7, 8, 9, 10, 11] (pz_for hps rfl (pit_val (pv_add (pv_lst (pvs_cons (pv_cal c__law_cell (hr.mono (by decide)) hgu (pvs_cons (pv_var 0) (pvs_cons (pv_int) (pvs_nil)))) (pvs_nil))) (pv_slice (pv_var 0) (pvo_some (pv_int)) (pvo_some (pv_int))))) (pgt_name 1 sc_law.nd) (pzs_end [1, 2, 3, 4, 5, 6, 7, 8, 9, 10, 11] (pzs_cons (pz_set 2 sc_law.nd (pv_cal c__law_pen (hr.mono (by decide)) hgu (pvs_cons (pv_var 1) (pvs_nil)))) (pzs_cons (pz_set 3 sc_law.nd (pv_cal c__law_moves (hr.mono (by decide)) hgu (pvs_cons (pv_var 2) (pvs_cons (pv_int) (pvs_nil))))) (pzs_cons (pz_par 4 5 rfl sc_law.nd (pvs_cons (pv_repr hgu (hu64 hr) z_repr (pvs_cons (pv_var 3) (pvs_nil))) (pvs_cons (pv_cal c__law_days (hr.mono (by decide)) hgu (pvs_cons (pv_var 2) (pvs_cons (pv_var 3) (pvs_nil)))) (pvs_nil)))) (pzs_cons (pz_beg [6, 7, 8, 9, 10, 11] (pz_for hps rfl (pit_range1 z_range (pvs_cons (pv_int) (pvs_nil))) (pgt_name 6 sc_law.nd) (pzs_end [6, 7, 8, 9, 10, 11] (pzs_cons (pz_par 7 8 rfl sc_law.nd (pvs_cons (pv_ix (pv_var 5) (pv_cal c__law_draw (hr.mono (by decide)) hgu (pvs_cons (pv_var 2) (pvs_cons (pv_len z_len (pvs_cons (pv_var 5) (pvs_nil))) (pvs_nil))))) (pvs_cons (pv_ix (pv_var 5) (pv_cal c__law_draw (hr.mono (by decide)) hgu (pvs_cons (pv_var 2) (pvs_cons (pv_len z_len (pvs_cons (pv_var 5) (pvs_nil))) (pvs_nil))))) (pvs_nil)))) (pzs_cons (pz_set 9 sc_law.nd (pv_cal c__law_due (hr.mono (by decide)) hgu (pvs_cons (pv_var 3) (pvs_cons (pv_var 7) (pvs_cons (pv_var 8) (pvs_nil)))))) (pzs_one (pz_beg [10, 11] (pz_for hps rfl (pit_range1 z_range (pvs_cons (pv_int) (pvs_nil))) (pgt_name 10 sc_law.nd) (pzs_end [10, 11] (pzs_cons (pz_set 11 sc_law.nd (pv_cal c_changed (hr.mono (by decide)) hgu (pvs_cons (pv_var 3) (pvs_cons (pv_var 7) (pvs_cons (pv_var 8) (pvs_nil)))))) (pzs_cons (pz_if (pb_cmp (opNe (hu64 hr)) sim_ne (pv_repr hgu (hu64 hr) z_repr (pvs_cons (pv_var 11) (pvs_nil))) (pv_repr hgu (hu64 hr) z_repr (pvs_cons (pv_var 9) (pvs_nil))) (nomark _)) (pzs_one (pz_ret (pv_bl))) (pzs_nil)) (pzs_one (pz_expr (pv_append (pv_var 11) (pvs_cons (pv_non) (pvs_nil)))))))))))))))) (pzs_one (pz_if (PBw.pb (pbw_or (pb_cmp (opNe (hu64 hr)) sim_ne (pv_cal c_changed (hr.mono (by decide)) hgu (pvs_cons (pv_var 3) (pvs_cons (pv_ix (pv_var 5) (pv_int)) (pvs_cons (pv_ix (pv_var 5) (pv_int)) (pvs_nil))))) (pv_lst (pvs_nil)) (nomark _)) (pbw_or1 (pb_cmp (opNe (hu64 hr)) sim_ne (pv_repr hgu (hu64 hr) z_repr (pvs_cons (pv_var 3) (pvs_nil))) (pv_var 4) (nomark _))))) (pzs_one (pz_ret (pv_bl))) (pzs_nil)))))))))) (pzs_one (pz_ret (pv_bl))), ex_law h⟩)
end
set_option maxHeartbeats 4000000 in
theorem all_mk {P : Program} {w : World} {K : PySem.W.Frag} {h : Heap} {mg : Str → Option Value} {fa : Addr} (X : K.In h) (G : h.Ns mainGlobals mg) (hfa : mg "law" = some (.ref fa))
    {f0 : Addr} {od0 an0 : Option Addr} {sl0 : Array (Option Value)} {oc0 kV0 dc0 pm0 ct0 : Value} {cd0 : Value}
    {f1 : Addr} {od1 an1 : Option Addr} {sl1 : Array (Option Value)} {oc1 kV1 dc1 pm1 ct1 : Value} {cd1 : Value}
    {f2 : Addr} {od2 an2 : Option Addr} {sl2 : Array (Option Value)} {oc2 kV2 dc2 pm2 ct2 : Value} {cd2 : Value}
    {f3 : Addr} {od3 an3 : Option Addr} {sl3 : Array (Option Value)} {oc3 kV3 dc3 pm3 ct3 : Value} {cd3 : Value}
    {f4 : Addr} {od4 an4 : Option Addr} {sl4 : Array (Option Value)} {oc4 kV4 dc4 pm4 ct4 : Value} {cd4 : Value}
    {f5 : Addr} {od5 an5 : Option Addr} {sl5 : Array (Option Value)} {oc5 kV5 dc5 pm5 ct5 : Value} {cd5 : Value}
    {ti_d5_0 : Tok}
    {dT5 : Addr} {dd5 : Option Addr} {dn5 : Nat} {ds5 : Array (Option Value)}
    {f6 : Addr} {od6 an6 : Option Addr} {sl6 : Array (Option Value)} {oc6 kV6 dc6 pm6 ct6 : Value} {cd6 : Value}
    {f7 : Addr} {od7 an7 : Option Addr} {sl7 : Array (Option Value)} {oc7 kV7 dc7 pm7 ct7 : Value} {cd7 : Value}
    {ti_d7_0 : Tok}
    {dT7 : Addr} {dd7 : Option Addr} {dn7 : Nat} {ds7 : Array (Option Value)}
    {f8 : Addr} {od8 an8 : Option Addr} {sl8 : Array (Option Value)} {oc8 kV8 dc8 pm8 ct8 : Value} {cd8 : Value}
    {f9 : Addr} {od9 an9 : Option Addr} {sl9 : Array (Option Value)} {oc9 kV9 dc9 pm9 ct9 : Value} {cd9 : Value}
    {f10 : Addr} {od10 an10 : Option Addr} {sl10 : Array (Option Value)} {oc10 kV10 dc10 pm10 ct10 : Value} {cd10 : Value}
    {f11 : Addr} {od11 an11 : Option Addr} {sl11 : Array (Option Value)} {oc11 kV11 dc11 pm11 ct11 : Value} {cd11 : Value}
    {f12 : Addr} {od12 an12 : Option Addr} {sl12 : Array (Option Value)} {oc12 kV12 dc12 pm12 ct12 : Value} {cd12 : Value}
    {f13 : Addr} {od13 an13 : Option Addr} {sl13 : Array (Option Value)} {oc13 kV13 dc13 pm13 ct13 : Value} {cd13 : Value}
    {ti_d13_0 : Tok}
    {dT13 : Addr} {dd13 : Option Addr} {dn13 : Nat} {ds13 : Array (Option Value)}
    {f14 : Addr} {od14 an14 : Option Addr} {sl14 : Array (Option Value)} {oc14 kV14 dc14 pm14 ct14 : Value} {cd14 : Value}
    {f15 : Addr} {od15 an15 : Option Addr} {sl15 : Array (Option Value)} {oc15 kV15 dc15 pm15 ct15 : Value} {cd15 : Value}
    {f16 : Addr} {od16 an16 : Option Addr} {sl16 : Array (Option Value)} {oc16 kV16 dc16 pm16 ct16 : Value} {cd16 : Value}
    {f17 : Addr} {od17 an17 : Option Addr} {sl17 : Array (Option Value)} {oc17 kV17 dc17 pm17 ct17 : Value} {cd17 : Value}
    {f18 : Addr} {od18 an18 : Option Addr} {sl18 : Array (Option Value)} {oc18 kV18 dc18 pm18 ct18 : Value} {cd18 : Value}
    {f19 : Addr} {od19 an19 : Option Addr} {sl19 : Array (Option Value)} {oc19 kV19 dc19 pm19 ct19 : Value} {cd19 : Value}
    {f20 : Addr} {od20 an20 : Option Addr} {sl20 : Array (Option Value)} {oc20 kV20 dc20 pm20 ct20 : Value} {cd20 : Value}
    {f21 : Addr} {od21 an21 : Option Addr} {sl21 : Array (Option Value)} {oc21 kV21 dc21 pm21 ct21 : Value} {cd21 : Value}
    {f22 : Addr} {od22 an22 : Option Addr} {sl22 : Array (Option Value)} {oc22 kV22 dc22 pm22 ct22 : Value} {cd22 : Value}
    {f23 : Addr} {od23 an23 : Option Addr} {sl23 : Array (Option Value)} {oc23 kV23 dc23 pm23 ct23 : Value} {cd23 : Value}
    {f24 : Addr} {od24 an24 : Option Addr} {sl24 : Array (Option Value)} {oc24 kV24 dc24 pm24 ct24 : Value} {cd24 : Value}
    {f25 : Addr} {od25 an25 : Option Addr} {sl25 : Array (Option Value)} {oc25 kV25 dc25 pm25 ct25 : Value} {cd25 : Value}
    {f26 : Addr} {od26 an26 : Option Addr} {sl26 : Array (Option Value)} {oc26 kV26 dc26 pm26 ct26 : Value} {cd26 : Value}
    {f27 : Addr} {od27 an27 : Option Addr} {sl27 : Array (Option Value)} {oc27 kV27 dc27 pm27 ct27 : Value} {cd27 : Value}
    {ti_CELLS : Tok}
    {ti_FIGURES : Tok}
    {ti_MOST_CODES : Tok}
    {ti_MOST_DEPTH : Tok}
    {ti_MOST_FIGURES : Tok}
    {ti_MOST_MOVES : Tok}
    {ti_NOBODY : Tok}
    {ti_SMALL : Tok}
    (a0 : PySem.W.nsIn K mainGlobals "is_whole" = some (some (.ref f0)))
    (l0 : K.lookup f0 = some ⟨oc0, od0, .func (PySem.W.fnOf "is_whole" "is_whole" (defArgs s_is_whole) (defBody s_is_whole) (defScope s_is_whole) .none kV0 dc0 pm0 an0 cd0 ct0), sl0⟩)
    (c0 : PySem.W.codeIn K cd0 "is_whole" = true)
    (k0 : PySem.W.keepIn K (.ref f0) = true)
    (a1 : PySem.W.nsIn K mainGlobals "is_word" = some (some (.ref f1)))
    (l1 : K.lookup f1 = some ⟨oc1, od1, .func (PySem.W.fnOf "is_word" "is_word" (defArgs s_is_word) (defBody s_is_word) (defScope s_is_word) .none kV1 dc1 pm1 an1 cd1 ct1), sl1⟩)
    (c1 : PySem.W.codeIn K cd1 "is_word" = true)
    (k1 : PySem.W.keepIn K (.ref f1) = true)
    (a2 : PySem.W.nsIn K mainGlobals "rises" = some (some (.ref f2)))
    (l2 : K.lookup f2 = some ⟨oc2, od2, .func (PySem.W.fnOf "rises" "rises" (defArgs s_rises) (defBody s_rises) (defScope s_rises) .none kV2 dc2 pm2 an2 cd2 ct2), sl2⟩)
    (c2 : PySem.W.codeIn K cd2 "rises" = true)
    (k2 : PySem.W.keepIn K (.ref f2) = true)
    (a3 : PySem.W.nsIn K mainGlobals "is_row" = some (some (.ref f3)))
    (l3 : K.lookup f3 = some ⟨oc3, od3, .func (PySem.W.fnOf "is_row" "is_row" (defArgs s_is_row) (defBody s_is_row) (defScope s_is_row) .none kV3 dc3 pm3 an3 cd3 ct3), sl3⟩)
    (c3 : PySem.W.codeIn K cd3 "is_row" = true)
    (k3 : PySem.W.keepIn K (.ref f3) = true)
    (a4 : PySem.W.nsIn K mainGlobals "is_day" = some (some (.ref f4)))
    (l4 : K.lookup f4 = some ⟨oc4, od4, .func (PySem.W.fnOf "is_day" "is_day" (defArgs s_is_day) (defBody s_is_day) (defScope s_is_day) .none kV4 dc4 pm4 an4 cd4 ct4), sl4⟩)
    (c4 : PySem.W.codeIn K cd4 "is_day" = true)
    (k4 : PySem.W.keepIn K (.ref f4) = true)
    (a5 : PySem.W.nsIn K mainGlobals "need_day" = some (some (.ref f5)))
    (l5 : K.lookup f5 = some ⟨oc5, od5, .func (PySem.W.fnOf "need_day" "need_day" (defArgs s_need_day) (defBody s_need_day) (defScope s_need_day) (.ref dT5) kV5 dc5 pm5 an5 cd5 ct5), sl5⟩)
    (dl5 : K.lookup dT5 = some ⟨.type "tuple", dd5, .seq #[(.int 0 ti_d5_0)] dn5, ds5⟩)
    (c5 : PySem.W.codeIn K cd5 "need_day" = true)
    (k5 : PySem.W.keepIn K (.ref f5) = true)
    (a6 : PySem.W.nsIn K mainGlobals "is_code" = some (some (.ref f6)))
    (l6 : K.lookup f6 = some ⟨oc6, od6, .func (PySem.W.fnOf "is_code" "is_code" (defArgs s_is_code) (defBody s_is_code) (defScope s_is_code) .none kV6 dc6 pm6 an6 cd6 ct6), sl6⟩)
    (c6 : PySem.W.codeIn K cd6 "is_code" = true)
    (k6 : PySem.W.keepIn K (.ref f6) = true)
    (a7 : PySem.W.nsIn K mainGlobals "are_codes" = some (some (.ref f7)))
    (l7 : K.lookup f7 = some ⟨oc7, od7, .func (PySem.W.fnOf "are_codes" "are_codes" (defArgs s_are_codes) (defBody s_are_codes) (defScope s_are_codes) (.ref dT7) kV7 dc7 pm7 an7 cd7 ct7), sl7⟩)
    (dl7 : K.lookup dT7 = some ⟨.type "tuple", dd7, .seq #[(.int 9 ti_d7_0)] dn7, ds7⟩)
    (c7 : PySem.W.codeIn K cd7 "are_codes" = true)
    (k7 : PySem.W.keepIn K (.ref f7) = true)
    (a8 : PySem.W.nsIn K mainGlobals "are_moves" = some (some (.ref f8)))
    (l8 : K.lookup f8 = some ⟨oc8, od8, .func (PySem.W.fnOf "are_moves" "are_moves" (defArgs s_are_moves) (defBody s_are_moves) (defScope s_are_moves) .none kV8 dc8 pm8 an8 cd8 ct8), sl8⟩)
    (c8 : PySem.W.codeIn K cd8 "are_moves" = true)
    (k8 : PySem.W.keepIn K (.ref f8) = true)
    (a9 : PySem.W.nsIn K mainGlobals "need_moves" = some (some (.ref f9)))
    (l9 : K.lookup f9 = some ⟨oc9, od9, .func (PySem.W.fnOf "need_moves" "need_moves" (defArgs s_need_moves) (defBody s_need_moves) (defScope s_need_moves) .none kV9 dc9 pm9 an9 cd9 ct9), sl9⟩)
    (c9 : PySem.W.codeIn K cd9 "need_moves" = true)
    (k9 : PySem.W.keepIn K (.ref f9) = true)
    (a10 : PySem.W.nsIn K mainGlobals "block_of" = some (some (.ref f10)))
    (l10 : K.lookup f10 = some ⟨oc10, od10, .func (PySem.W.fnOf "block_of" "block_of" (defArgs s_block_of) (defBody s_block_of) (defScope s_block_of) .none kV10 dc10 pm10 an10 cd10 ct10), sl10⟩)
    (c10 : PySem.W.codeIn K cd10 "block_of" = true)
    (k10 : PySem.W.keepIn K (.ref f10) = true)
    (a11 : PySem.W.nsIn K mainGlobals "cells_of" = some (some (.ref f11)))
    (l11 : K.lookup f11 = some ⟨oc11, od11, .func (PySem.W.fnOf "cells_of" "cells_of" (defArgs s_cells_of) (defBody s_cells_of) (defScope s_cells_of) .none kV11 dc11 pm11 an11 cd11 ct11), sl11⟩)
    (c11 : PySem.W.codeIn K cd11 "cells_of" = true)
    (k11 : PySem.W.keepIn K (.ref f11) = true)
    (a12 : PySem.W.nsIn K mainGlobals "owners_by" = some (some (.ref f12)))
    (l12 : K.lookup f12 = some ⟨oc12, od12, .func (PySem.W.fnOf "owners_by" "owners_by" (defArgs s_owners_by) (defBody s_owners_by) (defScope s_owners_by) .none kV12 dc12 pm12 an12 cd12 ct12), sl12⟩)
    (c12 : PySem.W.codeIn K cd12 "owners_by" = true)
    (k12 : PySem.W.keepIn K (.ref f12) = true)
    (a13 : PySem.W.nsIn K mainGlobals "codes_of" = some (some (.ref f13)))
    (l13 : K.lookup f13 = some ⟨oc13, od13, .func (PySem.W.fnOf "codes_of" "codes_of" (defArgs s_codes_of) (defBody s_codes_of) (defScope s_codes_of) (.ref dT13) kV13 dc13 pm13 an13 cd13 ct13), sl13⟩)
    (dl13 : K.lookup dT13 = some ⟨.type "tuple", dd13, .seq #[(.str "" ti_d13_0)] dn13, ds13⟩)
    (c13 : PySem.W.codeIn K cd13 "codes_of" = true)
    (k13 : PySem.W.keepIn K (.ref f13) = true)
    (a14 : PySem.W.nsIn K mainGlobals "changed" = some (some (.ref f14)))
    (l14 : K.lookup f14 = some ⟨oc14, od14, .func (PySem.W.fnOf "changed" "changed" (defArgs s_changed) (defBody s_changed) (defScope s_changed) .none kV14 dc14 pm14 an14 cd14 ct14), sl14⟩)
    (c14 : PySem.W.codeIn K cd14 "changed" = true)
    (k14 : PySem.W.keepIn K (.ref f14) = true)
    (a15 : PySem.W.nsIn K mainGlobals "_law_cell" = some (some (.ref f15)))
    (l15 : K.lookup f15 = some ⟨oc15, od15, .func (PySem.W.fnOf "_law_cell" "_law_cell" (defArgs s__law_cell) (defBody s__law_cell) (defScope s__law_cell) .none kV15 dc15 pm15 an15 cd15 ct15), sl15⟩)
    (c15 : PySem.W.codeIn K cd15 "_law_cell" = true)
    (k15 : PySem.W.keepIn K (.ref f15) = true)
    (a16 : PySem.W.nsIn K mainGlobals "_law_pen" = some (some (.ref f16)))
    (l16 : K.lookup f16 = some ⟨oc16, od16, .func (PySem.W.fnOf "_law_pen" "_law_pen" (defArgs s__law_pen) (defBody s__law_pen) (defScope s__law_pen) .none kV16 dc16 pm16 an16 cd16 ct16), sl16⟩)
    (c16 : PySem.W.codeIn K cd16 "_law_pen" = true)
    (k16 : PySem.W.keepIn K (.ref f16) = true)
    (a17 : PySem.W.nsIn K mainGlobals "_law_draw" = some (some (.ref f17)))
    (l17 : K.lookup f17 = some ⟨oc17, od17, .func (PySem.W.fnOf "_law_draw" "_law_draw" (defArgs s__law_draw) (defBody s__law_draw) (defScope s__law_draw) .none kV17 dc17 pm17 an17 cd17 ct17), sl17⟩)
    (c17 : PySem.W.codeIn K cd17 "_law_draw" = true)
    (k17 : PySem.W.keepIn K (.ref f17) = true)
    (a18 : PySem.W.nsIn K mainGlobals "_law_code" = some (some (.ref f18)))
    (l18 : K.lookup f18 = some ⟨oc18, od18, .func (PySem.W.fnOf "_law_code" "_law_code" (defArgs s__law_code) (defBody s__law_code) (defScope s__law_code) .none kV18 dc18 pm18 an18 cd18 ct18), sl18⟩)
    (c18 : PySem.W.codeIn K cd18 "_law_code" = true)
    (k18 : PySem.W.keepIn K (.ref f18) = true)
    (a19 : PySem.W.nsIn K mainGlobals "_law_codes" = some (some (.ref f19)))
    (l19 : K.lookup f19 = some ⟨oc19, od19, .func (PySem.W.fnOf "_law_codes" "_law_codes" (defArgs s__law_codes) (defBody s__law_codes) (defScope s__law_codes) .none kV19 dc19 pm19 an19 cd19 ct19), sl19⟩)
    (c19 : PySem.W.codeIn K cd19 "_law_codes" = true)
    (k19 : PySem.W.keepIn K (.ref f19) = true)
    (a20 : PySem.W.nsIn K mainGlobals "_law_words" = some (some (.ref f20)))
    (l20 : K.lookup f20 = some ⟨oc20, od20, .func (PySem.W.fnOf "_law_words" "_law_words" (defArgs s__law_words) (defBody s__law_words) (defScope s__law_words) .none kV20 dc20 pm20 an20 cd20 ct20), sl20⟩)
    (c20 : PySem.W.codeIn K cd20 "_law_words" = true)
    (k20 : PySem.W.keepIn K (.ref f20) = true)
    (a21 : PySem.W.nsIn K mainGlobals "_law_moves" = some (some (.ref f21)))
    (l21 : K.lookup f21 = some ⟨oc21, od21, .func (PySem.W.fnOf "_law_moves" "_law_moves" (defArgs s__law_moves) (defBody s__law_moves) (defScope s__law_moves) .none kV21 dc21 pm21 an21 cd21 ct21), sl21⟩)
    (c21 : PySem.W.codeIn K cd21 "_law_moves" = true)
    (k21 : PySem.W.keepIn K (.ref f21) = true)
    (a22 : PySem.W.nsIn K mainGlobals "_law_days" = some (some (.ref f22)))
    (l22 : K.lookup f22 = some ⟨oc22, od22, .func (PySem.W.fnOf "_law_days" "_law_days" (defArgs s__law_days) (defBody s__law_days) (defScope s__law_days) .none kV22 dc22 pm22 an22 cd22 ct22), sl22⟩)
    (c22 : PySem.W.codeIn K cd22 "_law_days" = true)
    (k22 : PySem.W.keepIn K (.ref f22) = true)
    (a23 : PySem.W.nsIn K mainGlobals "_law_all" = some (some (.ref f23)))
    (l23 : K.lookup f23 = some ⟨oc23, od23, .func (PySem.W.fnOf "_law_all" "_law_all" (defArgs s__law_all) (defBody s__law_all) (defScope s__law_all) .none kV23 dc23 pm23 an23 cd23 ct23), sl23⟩)
    (c23 : PySem.W.codeIn K cd23 "_law_all" = true)
    (k23 : PySem.W.keepIn K (.ref f23) = true)
    (a24 : PySem.W.nsIn K mainGlobals "_law_owners" = some (some (.ref f24)))
    (l24 : K.lookup f24 = some ⟨oc24, od24, .func (PySem.W.fnOf "_law_owners" "_law_owners" (defArgs s__law_owners) (defBody s__law_owners) (defScope s__law_owners) .none kV24 dc24 pm24 an24 cd24 ct24), sl24⟩)
    (c24 : PySem.W.codeIn K cd24 "_law_owners" = true)
    (k24 : PySem.W.keepIn K (.ref f24) = true)
    (a25 : PySem.W.nsIn K mainGlobals "_law_merged" = some (some (.ref f25)))
    (l25 : K.lookup f25 = some ⟨oc25, od25, .func (PySem.W.fnOf "_law_merged" "_law_merged" (defArgs s__law_merged) (defBody s__law_merged) (defScope s__law_merged) .none kV25 dc25 pm25 an25 cd25 ct25), sl25⟩)
    (c25 : PySem.W.codeIn K cd25 "_law_merged" = true)
    (k25 : PySem.W.keepIn K (.ref f25) = true)
    (a26 : PySem.W.nsIn K mainGlobals "_law_due" = some (some (.ref f26)))
    (l26 : K.lookup f26 = some ⟨oc26, od26, .func (PySem.W.fnOf "_law_due" "_law_due" (defArgs s__law_due) (defBody s__law_due) (defScope s__law_due) .none kV26 dc26 pm26 an26 cd26 ct26), sl26⟩)
    (c26 : PySem.W.codeIn K cd26 "_law_due" = true)
    (k26 : PySem.W.keepIn K (.ref f26) = true)
    (a27 : PySem.W.nsIn K mainGlobals "law" = some (some (.ref f27)))
    (l27 : K.lookup f27 = some ⟨oc27, od27, .func (PySem.W.fnOf "law" "law" (defArgs s_law) (defBody s_law) (defScope s_law) .none kV27 dc27 pm27 an27 cd27 ct27), sl27⟩)
    (c27 : PySem.W.codeIn K cd27 "law" = true)
    (k27 : PySem.W.keepIn K (.ref f27) = true)
    (z_all : PySem.W.nsIn K mainGlobals "all" = some none)
    (z_any : PySem.W.nsIn K mainGlobals "any" = some none)
    (z_bool : PySem.W.nsIn K mainGlobals "bool" = some none)
    (z_dict : PySem.W.nsIn K mainGlobals "dict" = some none)
    (z_divmod : PySem.W.nsIn K mainGlobals "divmod" = some none)
    (z_int : PySem.W.nsIn K mainGlobals "int" = some none)
    (z_isinstance : PySem.W.nsIn K mainGlobals "isinstance" = some none)
    (z_len : PySem.W.nsIn K mainGlobals "len" = some none)
    (z_list : PySem.W.nsIn K mainGlobals "list" = some none)
    (z_max : PySem.W.nsIn K mainGlobals "max" = some none)
    (z_min : PySem.W.nsIn K mainGlobals "min" = some none)
    (z_range : PySem.W.nsIn K mainGlobals "range" = some none)
    (z_repr : PySem.W.nsIn K mainGlobals "repr" = some none)
    (z_set : PySem.W.nsIn K mainGlobals "set" = some none)
    (z_sorted : PySem.W.nsIn K mainGlobals "sorted" = some none)
    (z_str : PySem.W.nsIn K mainGlobals "str" = some none)
    (z_tuple : PySem.W.nsIn K mainGlobals "tuple" = some none)
    (z_zip : PySem.W.nsIn K mainGlobals "zip" = some none)
    (g_CELLS : PySem.W.nsIn K mainGlobals "CELLS" = some (some (.int 16 ti_CELLS)))
    (g_FIGURES : PySem.W.nsIn K mainGlobals "FIGURES" = some (some (.str "0123" ti_FIGURES)))
    (g_MOST_CODES : PySem.W.nsIn K mainGlobals "MOST_CODES" = some (some (.int 1024 ti_MOST_CODES)))
    (g_MOST_DEPTH : PySem.W.nsIn K mainGlobals "MOST_DEPTH" = some (some (.int 9 ti_MOST_DEPTH)))
    (g_MOST_FIGURES : PySem.W.nsIn K mainGlobals "MOST_FIGURES" = some (some (.int 4 ti_MOST_FIGURES)))
    (g_MOST_MOVES : PySem.W.nsIn K mainGlobals "MOST_MOVES" = some (some (.int 24 ti_MOST_MOVES)))
    (g_NOBODY : PySem.W.nsIn K mainGlobals "NOBODY" = some (some (.str "land" ti_NOBODY)))
    (g_SMALL : PySem.W.nsIn K mainGlobals "SMALL" = some (some (.str "abcdefghijklmnopqrstuvwxyz" ti_SMALL))) :
    ∃ fd : FuncData, (∀ (s : Shared) (v : Value), BindsTo s fd ⟨[v], []⟩ [("_law_script", v)]) ∧ ∀ base : Heap, K.In base → base.Ns mainGlobals mg → FnG P w K mg base 11 fa fd ["_law_script"] sp_law := by
  have e := hfa.symm.trans (PySem.W.mg_of X G a27)
  cases e
  refine ⟨?fd, ?bd, fun base _ _ => ?fg⟩
  rotate_left 2
  have F0 := funV_mk (st := s_is_whole) l0 c0 k0
  have B0 : Binds K _ ["thing"] [] := F0.binds (ps := ["thing"]) (fun _ _ _ _ _ _ us hl => match us, hl with | [_], _ => rfl)
  have G0 := ok_is_whole (P := P) (w := w) (mg := mg) (base := base) F0 (PySem.W.mg_none_of X G z_bool) (PySem.W.mg_none_of X G z_int) (PySem.W.mg_none_of X G z_isinstance)
  have C_is_whole : Cal P w K mg base (1) "is_whole" [] sp_is_whole := ⟨⟨f0, _, _, [], [], PySem.W.mg_of X G a0, k0, B0, .nil, fun _ _ => rfl, G0⟩⟩
  have F1 := funV_mk (st := s_is_word) l1 c1 k1
  have B1 : Binds K _ ["thing"] [] := F1.binds (ps := ["thing"]) (fun _ _ _ _ _ _ us hl => match us, hl with | [_], _ => rfl)
  have G1 := ok_is_word (P := P) (w := w) (mg := mg) (base := base) F1 (PySem.W.mg_none_of X G z_all) (PySem.W.mg_none_of X G z_isinstance) (PySem.W.mg_none_of X G z_len) (PySem.W.mg_none_of X G z_str) ⟨_, PySem.W.mg_of X G g_SMALL, KRep.str⟩
  have C_is_word : Cal P w K mg base (1) "is_word" [] sp_is_word := ⟨⟨f1, _, _, [], [], PySem.W.mg_of X G a1, k1, B1, .nil, fun _ _ => rfl, G1⟩⟩
  have F2 := funV_mk (st := s_rises) l2 c2 k2
  have B2 : Binds K _ ["row"] [] := F2.binds (ps := ["row"]) (fun _ _ _ _ _ _ us hl => match us, hl with | [_], _ => rfl)
  have G2 := ok_rises (P := P) (w := w) (mg := mg) (base := base) F2 (PySem.W.mg_none_of X G z_all) (PySem.W.mg_none_of X G z_zip)
  have C_rises : Cal P w K mg base (1) "rises" [] sp_rises := ⟨⟨f2, _, _, [], [], PySem.W.mg_of X G a2, k2, B2, .nil, fun _ _ => rfl, G2⟩⟩
  have F3 := funV_mk (st := s_is_row) l3 c3 k3
  have B3 : Binds K _ ["thing", "least", "most", "many"] [] := F3.binds (ps := ["thing", "least", "most", "many"]) (fun _ _ _ _ _ _ us hl => match us, hl with | [_, _, _, _], _ => rfl)
  have G3 := ok_is_row (P := P) (w := w) (mg := mg) (base := base) F3 (PySem.W.mg_none_of X G z_all) (PySem.W.mg_none_of X G z_isinstance) (PySem.W.mg_none_of X G z_len) (PySem.W.mg_none_of X G z_tuple)
  have C_is_row : Cal P w K mg base (1) "is_row" [] sp_is_row := ⟨⟨f3, _, _, [], [], PySem.W.mg_of X G a3, k3, B3, .nil, fun _ _ => rfl, G3⟩⟩
  have F4 := funV_mk (st := s_is_day) l4 c4 k4
  have B4 : Binds K _ ["thing"] [] := F4.binds (ps := ["thing"]) (fun _ _ _ _ _ _ us hl => match us, hl with | [_], _ => rfl)
  have G4 := ok_is_day (P := P) (w := w) (mg := mg) (base := base) F4 C_is_whole
  have C_is_day : Cal P w K mg base (2) "is_day" [] sp_is_day := ⟨⟨f4, _, _, [], [], PySem.W.mg_of X G a4, k4, B4, .nil, fun _ _ => rfl, G4⟩⟩
  have F5 := funV_mk (st := s_need_day) l5 c5 k5
  have B5 : Binds K _ ["thing", "least"] [] := F5.bindsD (its := [(.int 0 ti_d5_0)]) dl5 rfl 2 1 rfl (fun _ _ _ _ _ _ us hl => match us, hl with | [_, _], _ => ⟨_, rfl, rfl⟩)
  have G5 := ok_need_day (P := P) (w := w) (mg := mg) (base := base) F5 C_is_day
  have C_need_day : Cal P w K mg base (3) "need_day" [] sp_need_day := ⟨⟨f5, _, _, [], [], PySem.W.mg_of X G a5, k5, B5, .nil, fun _ _ => rfl, G5⟩⟩
  have C_need_day_1 : Cal P w K mg base (3) "need_day" [.int 0] sp_need_day := calD (PySem.W.mg_of X G a5) k5 (F5.bindsD (ps := ["thing", "least"]) (its := [(.int 0 ti_d5_0)]) dl5 rfl 1 0 rfl (fun _ _ _ _ _ _ us hl => match us, hl with | [_], _ => ⟨_, rfl, rfl⟩)) (KReps.cons KRep.int KReps.nil) G5
  have F6 := funV_mk (st := s_is_code) l6 c6 k6
  have B6 : Binds K _ ["thing"] [] := F6.binds (ps := ["thing"]) (fun _ _ _ _ _ _ us hl => match us, hl with | [_], _ => rfl)
  have G6 := ok_is_code (P := P) (w := w) (mg := mg) (base := base) F6 (PySem.W.mg_none_of X G z_all) (PySem.W.mg_none_of X G z_isinstance) (PySem.W.mg_none_of X G z_len) (PySem.W.mg_none_of X G z_str) ⟨_, PySem.W.mg_of X G g_FIGURES, KRep.str⟩ ⟨_, PySem.W.mg_of X G g_MOST_DEPTH, KRep.int⟩
  have C_is_code : Cal P w K mg base (1) "is_code" [] sp_is_code := ⟨⟨f6, _, _, [], [], PySem.W.mg_of X G a6, k6, B6, .nil, fun _ _ => rfl, G6⟩⟩
  have F7 := funV_mk (st := s_are_codes) l7 c7 k7
  have B7 : Binds K _ ["thing", "most"] [] := F7.bindsD (its := [(.int 9 ti_d7_0)]) dl7 rfl 2 1 rfl (fun _ _ _ _ _ _ us hl => match us, hl with | [_, _], _ => ⟨_, rfl, rfl⟩)
  have G7 := ok_are_codes (P := P) (w := w) (mg := mg) (base := base) F7 (PySem.W.mg_none_of X G z_all) (PySem.W.mg_none_of X G z_any) (PySem.W.mg_none_of X G z_isinstance) (PySem.W.mg_none_of X G z_len) (PySem.W.mg_none_of X G z_tuple) (PySem.W.mg_none_of X G z_zip) ⟨_, PySem.W.mg_of X G g_MOST_CODES, KRep.int⟩ C_is_code C_rises
  have C_are_codes : Cal P w K mg base (2) "are_codes" [] sp_are_codes := ⟨⟨f7, _, _, [], [], PySem.W.mg_of X G a7, k7, B7, .nil, fun _ _ => rfl, G7⟩⟩
  have F8 := funV_mk (st := s_are_moves) l8 c8 k8
  have B8 : Binds K _ ["thing"] [] := F8.binds (ps := ["thing"]) (fun _ _ _ _ _ _ us hl => match us, hl with | [_], _ => rfl)
  have G8 := ok_are_moves (P := P) (w := w) (mg := mg) (base := base) F8 (PySem.W.mg_none_of X G z_all) (PySem.W.mg_none_of X G z_any) (PySem.W.mg_none_of X G z_zip) ⟨_, PySem.W.mg_of X G g_MOST_FIGURES, KRep.int⟩ ⟨_, PySem.W.mg_of X G g_MOST_MOVES, KRep.int⟩ C_are_codes C_is_day C_is_row C_is_word
  have C_are_moves : Cal P w K mg base (3) "are_moves" [] sp_are_moves := ⟨⟨f8, _, _, [], [], PySem.W.mg_of X G a8, k8, B8, .nil, fun _ _ => rfl, G8⟩⟩
  have F9 := funV_mk (st := s_need_moves) l9 c9 k9
  have B9 : Binds K _ ["thing"] [] := F9.binds (ps := ["thing"]) (fun _ _ _ _ _ _ us hl => match us, hl with | [_], _ => rfl)
  have G9 := ok_need_moves (P := P) (w := w) (mg := mg) (base := base) F9 C_are_moves
  have C_need_moves : Cal P w K mg base (4) "need_moves" [] sp_need_moves := ⟨⟨f9, _, _, [], [], PySem.W.mg_of X G a9, k9, B9, .nil, fun _ _ => rfl, G9⟩⟩
  have F10 := funV_mk (st := s_block_of) l10 c10 k10
  have B10 : Binds K _ ["code"] [] := F10.binds (ps := ["code"]) (fun _ _ _ _ _ _ us hl => match us, hl with | [_], _ => rfl)
  have G10 := ok_block_of (P := P) (w := w) (mg := mg) (base := base) F10 (PySem.W.mg_none_of X G z_int) ⟨_, PySem.W.mg_of X G g_CELLS, KRep.int⟩
  have C_block_of : Cal P w K mg base (1) "block_of" [] sp_block_of := ⟨⟨f10, _, _, [], [], PySem.W.mg_of X G a10, k10, B10, .nil, fun _ _ => rfl, G10⟩⟩
  have F11 := funV_mk (st := s_cells_of) l11 c11 k11
  have B11 : Binds K _ ["code"] [] := F11.binds (ps := ["code"]) (fun _ _ _ _ _ _ us hl => match us, hl with | [_], _ => rfl)
  have G11 := ok_cells_of (P := P) (w := w) (mg := mg) (base := base) F11 (PySem.W.mg_none_of X G z_range) C_block_of
  have C_cells_of : Cal P w K mg base (2) "cells_of" [] sp_cells_of := ⟨⟨f11, _, _, [], [], PySem.W.mg_of X G a11, k11, B11, .nil, fun _ _ => rfl, G11⟩⟩
  have F12 := funV_mk (st := s_owners_by) l12 c12 k12
  have B12 : Binds K _ ["moves", "day"] [] := F12.binds (ps := ["moves", "day"]) (fun _ _ _ _ _ _ us hl => match us, hl with | [_, _], _ => rfl)
  have G12 := ok_owners_by (P := P) (w := w) (mg := mg) (base := base) F12 ⟨_, PySem.W.mg_of X G g_NOBODY, KRep.str⟩ C_cells_of
  have C_owners_by : Cal P w K mg base (3) "owners_by" [] sp_owners_by := ⟨⟨f12, _, _, [], [], PySem.W.mg_of X G a12, k12, B12, .nil, fun _ _ => rfl, G12⟩⟩
  have F13 := funV_mk (st := s_codes_of) l13 c13 k13
  have B13 : Binds K _ ["cells", "code"] [] := F13.bindsD (its := [(.str "" ti_d13_0)]) dl13 rfl 2 1 rfl (fun _ _ _ _ _ _ us hl => match us, hl with | [_, _], _ => ⟨_, rfl, rfl⟩)
  have G13 := ok_codes_of (P := P) (w := w) (mg := mg) (base := base) F13 B13 (PySem.W.mg_of X G a13) (PySem.W.mg_none_of X G z_all) (PySem.W.mg_none_of X G z_any) C_cells_of 6
  have C_codes_of : Cal P w K mg base (9) "codes_of" [] (sp_codes_of 6) := ⟨⟨f13, _, _, [], [], PySem.W.mg_of X G a13, k13, B13, .nil, fun _ _ => rfl, G13⟩⟩
  have C_codes_of_1 : Cal P w K mg base (9) "codes_of" [.str ""] (sp_codes_of 6) := calD (PySem.W.mg_of X G a13) k13 (F13.bindsD (ps := ["cells", "code"]) (its := [(.str "" ti_d13_0)]) dl13 rfl 1 0 rfl (fun _ _ _ _ _ _ us hl => match us, hl with | [_], _ => ⟨_, rfl, rfl⟩)) (KReps.cons KRep.str KReps.nil) G13
  have F14 := funV_mk (st := s_changed) l14 c14 k14
  have B14 : Binds K _ ["moves", "day", "other_day"] [] := F14.binds (ps := ["moves", "day", "other_day"]) (fun _ _ _ _ _ _ us hl => match us, hl with | [_, _, _], _ => rfl)
  have G14 := ok_changed (P := P) (w := w) (mg := mg) (base := base) F14 (PySem.W.mg_none_of X G z_sorted) C_need_moves C_owners_by C_codes_of_1 C_need_day_1
  have C_changed : Cal P w K mg base (10) "changed" [] sp_changed := ⟨⟨f14, _, _, [], [], PySem.W.mg_of X G a14, k14, B14, .nil, fun _ _ => rfl, G14⟩⟩
  have F15 := funV_mk (st := s__law_cell) l15 c15 k15
  have B15 : Binds K _ ["_law_script", "_law_k"] [] := F15.binds (ps := ["_law_script", "_law_k"]) (fun _ _ _ _ _ _ us hl => match us, hl with | [_, _], _ => rfl)
  have G15 := ok__law_cell (P := P) (w := w) (mg := mg) (base := base) F15 (PySem.W.mg_none_of X G z_len)
  have C__law_cell : Cal P w K mg base (1) "_law_cell" [] sp__law_cell := ⟨⟨f15, _, _, [], [], PySem.W.mg_of X G a15, k15, B15, .nil, fun _ _ => rfl, G15⟩⟩
  have F16 := funV_mk (st := s__law_pen) l16 c16 k16
  have B16 : Binds K _ ["_law_cell_here"] [] := F16.binds (ps := ["_law_cell_here"]) (fun _ _ _ _ _ _ us hl => match us, hl with | [_], _ => rfl)
  have G16 := ok__law_pen (P := P) (w := w) (mg := mg) (base := base) F16 (PySem.W.mg_none_of X G z_int) (PySem.W.mg_none_of X G z_max)
  have C__law_pen : Cal P w K mg base (1) "_law_pen" [] sp__law_pen := ⟨⟨f16, _, _, [], [], PySem.W.mg_of X G a16, k16, B16, .nil, fun _ _ => rfl, G16⟩⟩
  have F17 := funV_mk (st := s__law_draw) l17 c17 k17
  have B17 : Binds K _ ["_law_pen_here", "_law_many"] [] := F17.binds (ps := ["_law_pen_here", "_law_many"]) (fun _ _ _ _ _ _ us hl => match us, hl with | [_, _], _ => rfl)
  have G17 := ok__law_draw (P := P) (w := w) (mg := mg) (base := base) F17 (PySem.W.mg_none_of X G z_divmod)
  have C__law_draw : Cal P w K mg base (1) "_law_draw" [] sp__law_draw := ⟨⟨f17, _, _, [], [], PySem.W.mg_of X G a17, k17, B17, .nil, fun _ _ => rfl, G17⟩⟩
  have F18 := funV_mk (st := s__law_code) l18 c18 k18
  have B18 : Binds K _ ["_law_pen_here"] [] := F18.binds (ps := ["_law_pen_here"]) (fun _ _ _ _ _ _ us hl => match us, hl with | [_], _ => rfl)
  have G18 := ok__law_code (P := P) (w := w) (mg := mg) (base := base) F18 (PySem.W.mg_none_of X G z_range) C__law_draw
  have C__law_code : Cal P w K mg base (2) "_law_code" [] sp__law_code := ⟨⟨f18, _, _, [], [], PySem.W.mg_of X G a18, k18, B18, .nil, fun _ _ => rfl, G18⟩⟩
  have F19 := funV_mk (st := s__law_codes) l19 c19 k19
  have B19 : Binds K _ ["_law_pen_here"] [] := F19.binds (ps := ["_law_pen_here"]) (fun _ _ _ _ _ _ us hl => match us, hl with | [_], _ => rfl)
  have G19 := ok__law_codes (P := P) (w := w) (mg := mg) (base := base) F19 (PySem.W.mg_none_of X G z_range) (PySem.W.mg_none_of X G z_sorted) (PySem.W.mg_none_of X G z_tuple) C__law_code C__law_draw
  have C__law_codes : Cal P w K mg base (3) "_law_codes" [] sp__law_codes := ⟨⟨f19, _, _, [], [], PySem.W.mg_of X G a19, k19, B19, .nil, fun _ _ => rfl, G19⟩⟩
  have F20 := funV_mk (st := s__law_words) l20 c20 k20
  have B20 : Binds K _ [] [] := F20.binds (ps := []) (fun _ _ _ _ _ _ us hl => match us, hl with | [], _ => rfl)
  have G20 := ok__law_words (P := P) (w := w) (mg := mg) (base := base) F20
  have C__law_words : Cal P w K mg base (1) "_law_words" [] sp__law_words := ⟨⟨f20, _, _, [], [], PySem.W.mg_of X G a20, k20, B20, .nil, fun _ _ => rfl, G20⟩⟩
  have KC__law_words : CalK P w K mg base 1 "_law_words" [] [] sp__law_words := ⟨⟨f20, _, [], PySem.W.mg_of X G a20, k20, kbinds F20 (fun _ _ _ _ _ _ ws hl => match ws, hl with | [], _ => rfl), G20⟩⟩
  have F21 := funV_mk (st := s__law_moves) l21 c21 k21
  have B21 : Binds K _ ["_law_pen_here", "_law_many"] [] := F21.binds (ps := ["_law_pen_here", "_law_many"]) (fun _ _ _ _ _ _ us hl => match us, hl with | [_, _], _ => rfl)
  have G21 := ok__law_moves (P := P) (w := w) (mg := mg) (base := base) F21 (PySem.W.mg_none_of X G z_min) (PySem.W.mg_none_of X G z_range) (PySem.W.mg_none_of X G z_tuple) C__law_codes C__law_draw KC__law_words
  have C__law_moves : Cal P w K mg base (4) "_law_moves" [] sp__law_moves := ⟨⟨f21, _, _, [], [], PySem.W.mg_of X G a21, k21, B21, .nil, fun _ _ => rfl, G21⟩⟩
  have F22 := funV_mk (st := s__law_days) l22 c22 k22
  have B22 : Binds K _ ["_law_pen_here", "_law_moves_here"] [] := F22.binds (ps := ["_law_pen_here", "_law_moves_here"]) (fun _ _ _ _ _ _ us hl => match us, hl with | [_, _], _ => rfl)
  have G22 := ok__law_days (P := P) (w := w) (mg := mg) (base := base) F22 (PySem.W.mg_none_of X G z_len) (PySem.W.mg_none_of X G z_list) (PySem.W.mg_none_of X G z_max) (PySem.W.mg_none_of X G z_range) (PySem.W.mg_none_of X G z_sorted) C__law_draw
  have C__law_days : Cal P w K mg base (2) "_law_days" [] sp__law_days := ⟨⟨f22, _, _, [], [], PySem.W.mg_of X G a22, k22, B22, .nil, fun _ _ => rfl, G22⟩⟩
  have F23 := funV_mk (st := s__law_all) l23 c23 k23
  have B23 : Binds K _ [] [] := F23.binds (ps := []) (fun _ _ _ _ _ _ us hl => match us, hl with | [], _ => rfl)
  have G23 := ok__law_all (P := P) (w := w) (mg := mg) (base := base) F23 (PySem.W.mg_none_of X G z_range)
  have C__law_all : Cal P w K mg base (1) "_law_all" [] sp__law_all := ⟨⟨f23, _, _, [], [], PySem.W.mg_of X G a23, k23, B23, .nil, fun _ _ => rfl, G23⟩⟩
  have KC__law_all : CalK P w K mg base 1 "_law_all" [] [] sp__law_all := ⟨⟨f23, _, [], PySem.W.mg_of X G a23, k23, kbinds F23 (fun _ _ _ _ _ _ ws hl => match ws, hl with | [], _ => rfl), G23⟩⟩
  have F24 := funV_mk (st := s__law_owners) l24 c24 k24
  have B24 : Binds K _ ["_law_moves_here", "_law_day"] [] := F24.binds (ps := ["_law_moves_here", "_law_day"]) (fun _ _ _ _ _ _ us hl => match us, hl with | [_, _], _ => rfl)
  have G24 := ok__law_owners (P := P) (w := w) (mg := mg) (base := base) F24 KC__law_all
  have C__law_owners : Cal P w K mg base (2) "_law_owners" [] sp__law_owners := ⟨⟨f24, _, _, [], [], PySem.W.mg_of X G a24, k24, B24, .nil, fun _ _ => rfl, G24⟩⟩
  have F25 := funV_mk (st := s__law_merged) l25 c25 k25
  have B25 : Binds K _ ["_law_cells"] [] := F25.binds (ps := ["_law_cells"]) (fun _ _ _ _ _ _ us hl => match us, hl with | [_], _ => rfl)
  have G25 := ok__law_merged (P := P) (w := w) (mg := mg) (base := base) F25 (PySem.W.mg_none_of X G z_dict) (PySem.W.mg_none_of X G z_len) (PySem.W.mg_none_of X G z_list) (PySem.W.mg_none_of X G z_set) (PySem.W.mg_none_of X G z_sorted) (PySem.W.mg_none_of X G z_tuple)
  have C__law_merged : Cal P w K mg base (1) "_law_merged" [] sp__law_merged := ⟨⟨f25, _, _, [], [], PySem.W.mg_of X G a25, k25, B25, .nil, fun _ _ => rfl, G25⟩⟩
  have F26 := funV_mk (st := s__law_due) l26 c26 k26
  have B26 : Binds K _ ["_law_moves_here", "_law_day", "_law_other"] [] := F26.binds (ps := ["_law_moves_here", "_law_day", "_law_other"]) (fun _ _ _ _ _ _ us hl => match us, hl with | [_, _, _], _ => rfl)
  have G26 := ok__law_due (P := P) (w := w) (mg := mg) (base := base) F26 (PySem.W.mg_none_of X G z_sorted) C__law_merged C__law_owners
  have C__law_due : Cal P w K mg base (3) "_law_due" [] sp__law_due := ⟨⟨f26, _, _, [], [], PySem.W.mg_of X G a26, k26, B26, .nil, fun _ _ => rfl, G26⟩⟩
  have F27 := funV_mk (st := s_law) l27 c27 k27
  have G27 := ok_law (P := P) (w := w) (mg := mg) (base := base) F27 (PySem.W.mg_none_of X G z_len) (PySem.W.mg_none_of X G z_range) (PySem.W.mg_none_of X G z_repr) C__law_cell C__law_days C__law_draw C__law_due C__law_moves C__law_pen C_changed
  exact G27
  exact fun s v => .of_eq rfl
end PL
open PySem PySem.W PyProof.Rows
set_option maxHeartbeats 0 in
theorem PySem.Challenge.cw_onewhere_k45_what_changed_hands_holds : PySem.Challenge.rw_onewhere_k45_what_changed_hands.Holds := by
  refine PySem.Challenge.ws_onewhere_k45_what_changed_hands ?_
  k_fill
  refine PL.walkG (l := PySem.Challenge.rw_onewhere_k45_what_changed_hands) (n := 63) (k := 11) (x := "_law_script") (psp := fun _ => PL.sp_law) rfl (by decide) rfl ⟨rfl, by decide, by decide⟩ (fun w h Y => PySem.W.kIn_of Y) ?F (fun _ ns Q hl hq => PL.sp_law_at hl hq)
  case F =>
    intro w mg fa h KX G hmg
    refine' PL.all_mk KX G hmg ?a0 ?l0 ?c0 ?k0 ?a1 ?l1 ?c1 ?k1 ?a2 ?l2 ?c2 ?k2 ?a3 ?l3 ?c3 ?k3 ?a4 ?l4 ?c4 ?k4 ?a5 ?l5 ?dl5 ?c5 ?k5 ?a6 ?l6 ?c6 ?k6 ?a7 ?l7 ?dl7 ?c7 ?k7 ?a8 ?l8 ?c8 ?k8 ?a9 ?l9 ?c9 ?k9 ?a10 ?l10 ?c10 ?k10 ?a11 ?l11 ?c11 ?k11 ?a12 ?l12 ?c12 ?k12 ?a13 ?l13 ?dl13 ?c13 ?k13 ?a14 ?l14 ?c14 ?k14 ?a15 ?l15 ?c15 ?k15 ?a16 ?l16 ?c16 ?k16 ?a17 ?l17 ?c17 ?k17 ?a18 ?l18 ?c18 ?k18 ?a19 ?l19 ?c19 ?k19 ?a20 ?l20 ?c20 ?k20 ?a21 ?l21 ?c21 ?k21 ?a22 ?l22 ?c22 ?k22 ?a23 ?l23 ?c23 ?k23 ?a24 ?l24 ?c24 ?k24 ?a25 ?l25 ?c25 ?k25 ?a26 ?l26 ?c26 ?k26 ?a27 ?l27 ?c27 ?k27 ?z_all ?z_any ?z_bool ?z_dict ?z_divmod ?z_int ?z_isinstance ?z_len ?z_list ?z_max ?z_min ?z_range ?z_repr ?z_set ?z_sorted ?z_str ?z_tuple ?z_zip ?g_CELLS ?g_FIGURES ?g_MOST_CODES ?g_MOST_DEPTH ?g_MOST_FIGURES ?g_MOST_MOVES ?g_NOBODY ?g_SMALL
    case a0 => k_is
    case l0 => k_is
    case c0 => k_is
    case k0 => k_is
    case a1 => k_is
    case l1 => k_is
    case c1 => k_is
    case k1 => k_is
    case a2 => k_is
    case l2 => k_is
    case c2 => k_is
    case k2 => k_is
    case a3 => k_is
    case l3 => k_is
    case c3 => k_is
    case k3 => k_is
    case a4 => k_is
    case l4 => k_is
    case c4 => k_is
    case k4 => k_is
    case a5 => k_is
    case l5 => k_is
    case dl5 => k_is
    case c5 => k_is
    case k5 => k_is
    case a6 => k_is
    case l6 => k_is
    case c6 => k_is
    case k6 => k_is
    case a7 => k_is
    case l7 => k_is
    case dl7 => k_is
    case c7 => k_is
    case k7 => k_is
    case a8 => k_is
    case l8 => k_is
    case c8 => k_is
    case k8 => k_is
    case a9 => k_is
    case l9 => k_is
    case c9 => k_is
    case k9 => k_is
    case a10 => k_is
    case l10 => k_is
    case c10 => k_is
    case k10 => k_is
    case a11 => k_is
    case l11 => k_is
    case c11 => k_is
    case k11 => k_is
    case a12 => k_is
    case l12 => k_is
    case c12 => k_is
    case k12 => k_is
    case a13 => k_is
    case l13 => k_is
    case dl13 => k_is
    case c13 => k_is
    case k13 => k_is
    case a14 => k_is
    case l14 => k_is
    case c14 => k_is
    case k14 => k_is
    case a15 => k_is
    case l15 => k_is
    case c15 => k_is
    case k15 => k_is
    case a16 => k_is
    case l16 => k_is
    case c16 => k_is
    case k16 => k_is
    case a17 => k_is
    case l17 => k_is
    case c17 => k_is
    case k17 => k_is
    case a18 => k_is
    case l18 => k_is
    case c18 => k_is
    case k18 => k_is
    case a19 => k_is
    case l19 => k_is
    case c19 => k_is
    case k19 => k_is
    case a20 => k_is
    case l20 => k_is
    case c20 => k_is
    case k20 => k_is
    case a21 => k_is
    case l21 => k_is
    case c21 => k_is
    case k21 => k_is
    case a22 => k_is
    case l22 => k_is
    case c22 => k_is
    case k22 => k_is
    case a23 => k_is
    case l23 => k_is
    case c23 => k_is
    case k23 => k_is
    case a24 => k_is
    case l24 => k_is
    case c24 => k_is
    case k24 => k_is
    case a25 => k_is
    case l25 => k_is
    case c25 => k_is
    case k25 => k_is
    case a26 => k_is
    case l26 => k_is
    case c26 => k_is
    case k26 => k_is
    case a27 => k_is
    case l27 => k_is
    case c27 => k_is
    case k27 => k_is
    case z_all => k_is
    case z_any => k_is
    case z_bool => k_is
    case z_dict => k_is
    case z_divmod => k_is
    case z_int => k_is
    case z_isinstance => k_is
    case z_len => k_is
    case z_list => k_is
    case z_max => k_is
    case z_min => k_is
    case z_range => k_is
    case z_repr => k_is
    case z_set => k_is
    case z_sorted => k_is
    case z_str => k_is
    case z_tuple => k_is
    case z_zip => k_is
    case g_CELLS => k_is
    case g_FIGURES => k_is
    case g_MOST_CODES => k_is
    case g_MOST_DEPTH => k_is
    case g_MOST_FIGURES => k_is
    case g_MOST_MOVES => k_is
    case g_NOBODY => k_is
    case g_SMALL => k_is

